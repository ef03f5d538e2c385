import PyProof.Rows.All
import Wide.All
import OpenK.AllK
import Wide.FinOn
import HandS.ForMost
import HandS.Star
import HandS.Wide
import HandS.Walk
import HandS.TupAny
import HandS.Conv
import HandS.SortInts
import HandS.Style
import KE.GoesNew
import HandS.Small
import HandS.Words
import HandS.EndBits
import HandS.Zip
import KE.KTupSum
import KE.DataMinMax
import KE.SortData
import PyProof.P3Eq
import HandS.IsInst
import HandS.Deep
import KE.DataCmp
import KE.KEqDeep
import HandS.TupMul
import HandS.ListItems
import HandS.More
import PyProof.Rows.SeqMore
import KE.GoesEnumKw
import PyProof.Rows.CallKwBuiltin
import HandS.DictComp
import HandS.Exc
import HandS.ExcInit
import HandS.ExcField
import HandS.ExcOwn
import HandS.Nested
import KE.KExcSuper
import PyProof.ZipIter
import PySem.Challenge.RW_wakedenough_k43_whole_first_sentence
set_option Elab.async false
set_option linter.all false
set_option maxRecDepth 100000
set_option maxHeartbeats 4000000
set_option exponentiation.threshold 2000
/-! Sq1: values as data, how the abstract heap bears them, states -/
namespace Sq
open PySem PySem.Spec PyProof.Rows L2
abbrev D := PyData
abbrev Frag := PySem.W.Frag
def keyD : Key → D
  | .inl i => .int i
  | .inr x => .str x
def isLeaf : D → Bool
  | .list _ => false
  | .dict _ => false
  | _ => true
/-- the first entry of a dict whose keys are tuples -/
def dTmark : D × D := (.none, .none)
/-- a list among the module's own objects -/
def KL (K : Frag) (a : Addr) (xs : List V) : Prop := ∃ (o : Obj) (its : Array Value) (n : Nat), K.lookup a = some o ∧ o.cls = .type "list" ∧ o.dict = none ∧ o.data = .seq its n ∧ its.size ≤ sizeLine ∧ Vals xs its.toList
/-- an object's mark, its fields' keys -/
def oMark (c : Str) : D × D := (.none, .str c)
def fkD (f : Str) : D := .tuple [.str f]
/-- an object's data -/
def ob (c : Str) (fs : List (Str × D)) : D := .dict (oMark c :: fs.map fun q => (fkD q.1, q.2))
/-- the class at C has the name c, and no attribute of a field's name -/
structure ObC (K : Frag) (c : Str) (C : Addr) (gs : List Str) : Prop where
  ns : PySem.W.nsIn K mainGlobals c = some (some (.ref C))
  cl : Cls K C
  na : ∀ g ∈ gs, NoAttr K C g
/-! frozen: what v is, lists and dicts as G tells -/
mutual
inductive RepF (K : Frag) (G H : Hp) : V → D → Prop
  | non : RepF K G H .non .none
  | bl (b : Bool) : RepF K G H (.bl b) (.bool b)
  | int (i : Int) : RepF K G H (.int i) (.int i)
  | str (x : Str) : RepF K G H (.str x) (.str x)
  | tup {p : Addr} {vs : List V} {ds : List D} : SqT K H p vs → vs.length ≤ sizeLine → RepFs K G H vs ds → RepF K G H (.ref p) (.tuple ds)
  | lst {p : Addr} {vs : List V} {ds : List D} : G p = some (.lst vs) → vs.length ≤ sizeLine → RepFs K G H vs ds → RepF K G H (.ref p) (.list ds)
  | lstK {p : Addr} {vs : List V} {ds : List D} : KL K p vs → vs.length ≤ sizeLine → RepFs K G H vs ds → RepF K G H (.ref p) (.list ds)
  | dck {p : Addr} {kvs : List (Key × V)} {es : List (D × D)} : G p = some (.dK kvs) → kvs.length ≤ sizeLine → es.map (·.1) = kvs.map (fun kv => keyD kv.1) →
      (kvs.map (·.1)).Nodup → RepFs K G H (kvs.map (·.2)) (es.map (·.2)) → RepF K G H (.ref p) (.dict es)
  | dct {p : Addr} {kvs : List (List Key × V)} {es : List (D × D)} : G p = some (.dT kvs) → kvs.length ≤ sizeLine → es.map (·.1) = kvs.map (fun kv => .tuple (kv.1.map keyD)) →
      (kvs.map (·.1)).Nodup → RepFs K G H (kvs.map (·.2)) (es.map (·.2)) → RepF K G H (.ref p) (.dict (dTmark :: es))
  | ins {p C dx : Addr} {c : Str} {fs : List (Str × V)} {es : List (D × D)} : G p = some (.ins C dx fs) → ObC K c C (fs.map (·.1)) → es.map (·.1) = fs.map (fun kv => fkD kv.1) →
      (fs.map (·.1)).Nodup → RepFs K G H (fs.map (·.2)) (es.map (·.2)) → RepF K G H (.ref p) (.dict (oMark c :: es))
inductive RepFs (K : Frag) (G H : Hp) : List V → List D → Prop
  | nil : RepFs K G H [] []
  | cons {v : V} {d : D} {vs : List V} {ds : List D} : RepF K G H v d → RepFs K G H vs ds → RepFs K G H (v :: vs) (d :: ds)
end
/-- the tuples stay -/
def Tups (H H' : Hp) : Prop := ∀ p xs, Rd H p (.tup xs) → Rd H' p (.tup xs)
def Le (G G' : Hp) : Prop := ∀ p o, G p = some o → G' p = some o
theorem Le.refl (G : Hp) : Le G G := fun _ _ h => h
theorem Le.trans {A B C : Hp} (h : Le A B) (k : Le B C) : Le A C := fun p o e => k p o (h p o e)
theorem Tups.refl (H : Hp) : Tups H H := fun _ _ h => h
theorem Tups.trans {A B C : Hp} (h : Tups A B) (k : Tups B C) : Tups A C := fun p o e => k p o (h p o e)
theorem sqT_mono {K : Frag} {H H' : Hp} {p : Addr} {vs : List V} (ht : Tups H H') (h : SqT K H p vs) : SqT K H' p vs := by
  rcases h with h | h
  · exact .inl (ht _ _ h)
  · exact .inr h
mutual
theorem RepF.mono {K : Frag} {G G' H H' : Hp} (ht : Tups H H') (hg : Le G G') : ∀ {v : V} {d : D}, RepF K G H v d → RepF K G' H' v d
  | _, _, .non => .non
  | _, _, .bl b => .bl b
  | _, _, .int i => .int i
  | _, _, .str x => .str x
  | _, _, .tup h z r => .tup (sqT_mono ht h) z (RepFs.mono ht hg r)
  | _, _, .lst h z r => .lst (hg _ _ h) z (RepFs.mono ht hg r)
  | _, _, .lstK h z r => .lstK h z (RepFs.mono ht hg r)
  | _, _, .dck h z e n r => .dck (hg _ _ h) z e n (RepFs.mono ht hg r)
  | _, _, .dct h z e n r => .dct (hg _ _ h) z e n (RepFs.mono ht hg r)
  | _, _, .ins h z e n r => .ins (hg _ _ h) z e n (RepFs.mono ht hg r)
theorem RepFs.mono {K : Frag} {G G' H H' : Hp} (ht : Tups H H') (hg : Le G G') : ∀ {v : List V} {d : List D}, RepFs K G H v d → RepFs K G' H' v d
  | _, _, .nil => .nil
  | _, _, .cons h r => .cons (RepF.mono ht hg h) (RepFs.mono ht hg r)
end
theorem RepFs.length {K : Frag} {G H : Hp} : ∀ {vs : List V} {ds : List D}, RepFs K G H vs ds → vs.length = ds.length
  | _, _, .nil => rfl
  | _, _, .cons _ r => by simp [RepFs.length r]
theorem RepFs.get {K : Frag} {G H : Hp} : ∀ {vs : List V} {ds : List D} {i : Nat} {d : D}, RepFs K G H vs ds → ds[i]? = some d → ∃ v, vs[i]? = some v ∧ RepF K G H v d
  | _, _, i, d, .nil, e => by simp at e
  | _, _, 0, d, .cons h r, e => by simp at e; subst e; exact ⟨_, by simp, h⟩
  | _, _, i + 1, d, .cons h r, e => by
    obtain ⟨v, e1, h1⟩ := RepFs.get r (by simpa using e)
    exact ⟨v, by simpa using e1, h1⟩
theorem RepFs.getV {K : Frag} {G H : Hp} : ∀ {vs : List V} {ds : List D} {i : Nat} {v : V}, RepFs K G H vs ds → vs[i]? = some v → ∃ d, ds[i]? = some d ∧ RepF K G H v d
  | _, _, i, d, .nil, e => by simp at e
  | _, _, 0, d, .cons h r, e => by simp at e; subst e; exact ⟨_, by simp, h⟩
  | _, _, i + 1, d, .cons h r, e => by
    obtain ⟨v, e1, h1⟩ := RepFs.getV r (by simpa using e)
    exact ⟨v, by simpa using e1, h1⟩
theorem RepFs.append {K : Frag} {G H : Hp} : ∀ {vs : List V} {ds : List D} {ws : List V} {es : List D}, RepFs K G H vs ds → RepFs K G H ws es → RepFs K G H (vs ++ ws) (ds ++ es)
  | _, _, _, _, .nil, s => s
  | _, _, _, _, .cons h r, s => .cons h (RepFs.append r s)
theorem RepFs.drop {K : Frag} {G H : Hp} : ∀ {vs : List V} {ds : List D} (n : Nat), RepFs K G H vs ds → RepFs K G H (vs.drop n) (ds.drop n)
  | _, _, 0, r => r
  | _, _, _ + 1, .nil => .nil
  | _, _, n + 1, .cons _ r => RepFs.drop n r
theorem RepFs.take {K : Frag} {G H : Hp} : ∀ {vs : List V} {ds : List D} (n : Nat), RepFs K G H vs ds → RepFs K G H (vs.take n) (ds.take n)
  | _, _, 0, r => .nil
  | _, _, _ + 1, .nil => .nil
  | _, _, n + 1, .cons h r => .cons h (RepFs.take n r)
theorem RepFs.reverse {K : Frag} {G H : Hp} : ∀ {vs : List V} {ds : List D}, RepFs K G H vs ds → RepFs K G H vs.reverse ds.reverse
  | _, _, .nil => .nil
  | _, _, .cons h r => by
    rw [List.reverse_cons, List.reverse_cons]
    exact (RepFs.reverse r).append (.cons h .nil)
theorem RepFs.rep {K : Frag} {G H : Hp} {vs : List V} {ds : List D} (h : RepFs K G H vs ds) : ∀ n : Nat, RepFs K G H (List.replicate n vs).flatten (List.replicate n ds).flatten
  | 0 => .nil
  | n + 1 => by
    rw [List.replicate_succ, List.replicate_succ, List.flatten_cons, List.flatten_cons]
    exact h.append (RepFs.rep h n)
theorem RepFs.ints {K : Frag} {G H : Hp} : ∀ {vs : List V} {ns : List Int}, RepFs K G H vs (ns.map .int) → vs = ns.map V.int
  | _, [], h => by cases h; rfl
  | _, n :: ns, h => by
    cases h with
    | cons h r =>
      cases h
      rw [RepFs.ints r]
      rfl
theorem RepFs.ofInts {K : Frag} {G H : Hp} : ∀ (ns : List Int), RepFs K G H (ns.map V.int) (ns.map PyData.int)
  | [] => .nil
  | n :: ns => .cons (.int n) (RepFs.ofInts ns)
/-- n levels of lists and dicts that are owned (fp: their addresses), below these frozen -/
abbrev At (H : Hp) : Addr → HO → Prop := fun p o => H p = some o
mutual
inductive RepO (K : Frag) (G H : Hp) (O : Addr → HO → Prop) : Nat → V → D → List Addr → Prop
  | frz {v : V} {d : D} : RepF K G H v d → RepO K G H O 0 v d []
  | leaf {n : Nat} {v : V} {d : D} : isLeaf d = true → RepF K G H v d → RepO K G H O (n + 1) v d []
  | lst {n : Nat} {p : Addr} {vs : List V} {ds : List D} {fp : List Addr} : H p = some (.lst vs) → vs.length ≤ sizeLine → ROs K G H O n vs ds fp → RepO K G H O (n + 1) (.ref p) (.list ds) (p :: fp)
  | dck {n : Nat} {p : Addr} {kvs : List (Key × V)} {es : List (D × D)} {fp : List Addr} : O p (.dK kvs) → kvs.length ≤ sizeLine → es.map (·.1) = kvs.map (fun kv => keyD kv.1) →
      (kvs.map (·.1)).Nodup → ROs K G H O n (kvs.map (·.2)) (es.map (·.2)) fp → RepO K G H O (n + 1) (.ref p) (.dict es) (p :: fp)
  | dct {n : Nat} {p : Addr} {kvs : List (List Key × V)} {es : List (D × D)} {fp : List Addr} : O p (.dT kvs) → kvs.length ≤ sizeLine → es.map (·.1) = kvs.map (fun kv => .tuple (kv.1.map keyD)) →
      (kvs.map (·.1)).Nodup → ROs K G H O n (kvs.map (·.2)) (es.map (·.2)) fp → RepO K G H O (n + 1) (.ref p) (.dict (dTmark :: es)) (p :: fp)
  | ins {n : Nat} {p C dx : Addr} {c : Str} {fs : List (Str × V)} {es : List (D × D)} {fp : List Addr} : H p = some (.ins C dx fs) → ObC K c C (fs.map (·.1)) → es.map (·.1) = fs.map (fun kv => fkD kv.1) →
      (fs.map (·.1)).Nodup → ROs K G H O n (fs.map (·.2)) (es.map (·.2)) fp → RepO K G H O (n + 1) (.ref p) (.dict (oMark c :: es)) (p :: fp)
inductive ROs (K : Frag) (G H : Hp) (O : Addr → HO → Prop) : Nat → List V → List D → List Addr → Prop
  | nil {n : Nat} : ROs K G H O n [] [] []
  | cons {n : Nat} {v : V} {d : D} {vs : List V} {ds : List D} {f1 f2 : List Addr} : RepO K G H O n v d f1 → ROs K G H O n vs ds f2 → ROs K G H O n (v :: vs) (d :: ds) (f1 ++ f2)
end
mutual
theorem RepO.mono {K : Frag} {G G' H H' : Hp} {O O' : Addr → HO → Prop} (ht : Tups H H') (hg : Le G G') : ∀ {n : Nat} {v : V} {d : D} {fp : List Addr}, RepO K G H O n v d fp →
    (∀ p ∈ fp, ∀ o, O p o → O' p o) → (∀ p ∈ fp, ∀ o, H p = some o → H' p = some o) → RepO K G' H' O' n v d fp
  | _, _, _, _, .frz h, _, _ => .frz (h.mono ht hg)
  | _, _, _, _, .leaf e h, _, _ => .leaf e (h.mono ht hg)
  | _, _, _, _, .lst h z r, k, j => .lst (j _ List.mem_cons_self _ h) z (ROs.mono ht hg r (fun p hp => k p (List.mem_cons_of_mem _ hp)) fun p hp => j p (List.mem_cons_of_mem _ hp))
  | _, _, _, _, .dck h z e n r, k, j => .dck (k _ List.mem_cons_self _ h) z e n (ROs.mono ht hg r (fun p hp => k p (List.mem_cons_of_mem _ hp)) fun p hp => j p (List.mem_cons_of_mem _ hp))
  | _, _, _, _, .dct h z e n r, k, j => .dct (k _ List.mem_cons_self _ h) z e n (ROs.mono ht hg r (fun p hp => k p (List.mem_cons_of_mem _ hp)) fun p hp => j p (List.mem_cons_of_mem _ hp))
  | _, _, _, _, .ins h z e n r, k, j => .ins (j _ List.mem_cons_self _ h) z e n (ROs.mono ht hg r (fun p hp => k p (List.mem_cons_of_mem _ hp)) fun p hp => j p (List.mem_cons_of_mem _ hp))
theorem ROs.mono {K : Frag} {G G' H H' : Hp} {O O' : Addr → HO → Prop} (ht : Tups H H') (hg : Le G G') : ∀ {n : Nat} {v : List V} {d : List D} {fp : List Addr}, ROs K G H O n v d fp →
    (∀ p ∈ fp, ∀ o, O p o → O' p o) → (∀ p ∈ fp, ∀ o, H p = some o → H' p = some o) → ROs K G' H' O' n v d fp
  | _, _, _, _, .nil, _, _ => .nil
  | _, _, _, _, .cons h r, k, j => .cons (RepO.mono ht hg h (fun p hp => k p (List.mem_append_left _ hp)) fun p hp => j p (List.mem_append_left _ hp))
      (ROs.mono ht hg r (fun p hp => k p (List.mem_append_right _ hp)) fun p hp => j p (List.mem_append_right _ hp))
end
/-- owned things are lists and dicts -/
def Mutb (o : HO) : Prop := (∃ xs, o = .lst xs) ∨ (∃ xs, o = .dK xs) ∨ (∃ xs, o = .dT xs) ∨ ∃ x : Addr × Addr × List (Str × V), o = .ins x.1 x.2.1 x.2.2
mutual
theorem RepO.mutb {K : Frag} {G H : Hp} : ∀ {n : Nat} {v : V} {d : D} {fp : List Addr}, RepO K G H (At H) n v d fp → ∀ p ∈ fp, ∃ o, H p = some o ∧ Mutb o
  | _, _, _, _, .frz _, p, hp => by simp at hp
  | _, _, _, _, .leaf _ _, p, hp => by simp at hp
  | _, _, _, _, .lst h _ r, p, hp => by
    rcases List.mem_cons.mp hp with e | hp
    · subst e; exact ⟨_, h, .inl ⟨_, rfl⟩⟩
    · exact ROs.mutb r p hp
  | _, _, _, _, .dck h _ _ _ r, p, hp => by
    rcases List.mem_cons.mp hp with e | hp
    · subst e; exact ⟨_, h, .inr (.inl ⟨_, rfl⟩)⟩
    · exact ROs.mutb r p hp
  | _, _, _, _, .dct h _ _ _ r, p, hp => by
    rcases List.mem_cons.mp hp with e | hp
    · subst e; exact ⟨_, h, .inr (.inr (.inl ⟨_, rfl⟩))⟩
    · exact ROs.mutb r p hp
  | _, _, _, _, .ins h _ _ _ r, p, hp => by
    rcases List.mem_cons.mp hp with e | hp
    · subst e; exact ⟨_, h, .inr (.inr (.inr ⟨⟨_, _, _⟩, rfl⟩))⟩
    · exact ROs.mutb r p hp
theorem ROs.mutb {K : Frag} {G H : Hp} : ∀ {n : Nat} {v : List V} {d : List D} {fp : List Addr}, ROs K G H (At H) n v d fp → ∀ p ∈ fp, ∃ o, H p = some o ∧ Mutb o
  | _, _, _, _, .nil, p, hp => by simp at hp
  | _, _, _, _, .cons h r, p, hp => by
    rcases List.mem_append.mp hp with hp | hp
    · exact RepO.mutb h p hp
    · exact ROs.mutb r p hp
end
/-! frozen: what was owned is in G' -/
mutual
theorem RepO.freeze {K : Frag} {G G' H : Hp} (hg : Le G G') : ∀ {n : Nat} {v : V} {d : D} {fp : List Addr}, RepO K G H (At H) n v d fp → (∀ p ∈ fp, ∀ o, H p = some o → G' p = some o) → RepF K G' H v d
  | _, _, _, _, .frz h, _ => h.mono (Tups.refl _) hg
  | _, _, _, _, .leaf _ h, _ => h.mono (Tups.refl _) hg
  | _, _, _, _, .lst h z r, k => .lst (k _ List.mem_cons_self _ h) z (ROs.freeze hg r fun p hp => k p (List.mem_cons_of_mem _ hp))
  | _, _, _, _, .dck h z e n r, k => .dck (k _ List.mem_cons_self _ h) z e n (ROs.freeze hg r fun p hp => k p (List.mem_cons_of_mem _ hp))
  | _, _, _, _, .dct h z e n r, k => .dct (k _ List.mem_cons_self _ h) z e n (ROs.freeze hg r fun p hp => k p (List.mem_cons_of_mem _ hp))
  | _, _, _, _, .ins h z e n r, k => .ins (k _ List.mem_cons_self _ h) z e n (ROs.freeze hg r fun p hp => k p (List.mem_cons_of_mem _ hp))
theorem ROs.freeze {K : Frag} {G G' H : Hp} (hg : Le G G') : ∀ {n : Nat} {v : List V} {d : List D} {fp : List Addr}, ROs K G H (At H) n v d fp → (∀ p ∈ fp, ∀ o, H p = some o → G' p = some o) → RepFs K G' H v d
  | _, _, _, _, .nil, _ => .nil
  | _, _, _, _, .cons h r, k => .cons (RepO.freeze hg h fun p hp => k p (List.mem_append_left _ hp)) (ROs.freeze hg r fun p hp => k p (List.mem_append_right _ hp))
end
theorem ROs.of {K : Frag} {G H : Hp} {O : Addr → HO → Prop} : ∀ {vs : List V} {ds : List D}, RepFs K G H vs ds → ROs K G H O 0 vs ds []
  | _, _, .nil => .nil
  | _, _, .cons h r => by
    have q := ROs.cons (.frz (O := O) h) (ROs.of r)
    exact q
theorem ROs.plain {K : Frag} {G H : Hp} {O : Addr → HO → Prop} : ∀ {vs : List V} {ds : List D} {fp : List Addr}, ROs K G H O 0 vs ds fp → RepFs K G H vs ds ∧ fp = []
  | _, _, _, .nil => ⟨.nil, rfl⟩
  | _, _, _, .cons h r => by
    obtain ⟨q, rfl⟩ := ROs.plain r
    cases h with
    | frz h => exact ⟨.cons h q, rfl⟩
theorem ROs.length {K : Frag} {G H : Hp} {O : Addr → HO → Prop} {n : Nat} : ∀ {vs : List V} {ds : List D} {fp : List Addr}, ROs K G H O n vs ds fp → vs.length = ds.length
  | _, _, _, .nil => rfl
  | _, _, _, .cons _ r => by simp [ROs.length r]
theorem RepO.plain {K : Frag} {G H : Hp} {O : Addr → HO → Prop} {v : V} {d : D} {fp : List Addr} (h : RepO K G H O 0 v d fp) : RepF K G H v d ∧ fp = [] := by
  cases h with
  | frz h => exact ⟨h, rfl⟩
end Sq
/-! Sq2: states, steps, readings -/
namespace Sq
open PySem PySem.Spec PyProof.Rows L2
inductive Md where
  | own (n : Nat)
  | lok (n : Nat)
abbrev Slot := Option (Md × D)
abbrev En := List Slot
abbrev Fps := Nat → List Addr
def Owns (f : Fps) : Addr → Prop := fun p => ∃ i, p ∈ f i
def SlotR (K : Frag) (G H : Hp) (L : Addr → Prop) : Md → V → D → List Addr → Prop
  | .own n, v, d, fp => RepO K G H (At H) n v d fp
  | .lok n, v, d, fp => fp = [] ∧ ∃ fq, RepO K G H (Rd H) n v d fq ∧ ∀ p ∈ fq, L p
structure SR (K : Frag) (G H : Hp) (L : Addr → Prop) (σ : L2.St) (env : En) (f : Fps) : Prop where
  len : env.length = σ.length
  slot : ∀ i m d, env[i]? = some (some (m, d)) → ∃ v, σ[i]? = some (some v) ∧ SlotR K G H L m v d (f i)
  own : ∀ i p, p ∈ f i → ∃ n d, env[i]? = some (some (.own n, d))
  nd : ∀ i, (f i).Nodup
  dj : ∀ i j p, i ≠ j → p ∈ f i → p ∉ f j
  gh : ∀ p o, G p = some o → Rd H p o
  gf : ∀ i p, p ∈ f i → G p = none
  lk : ∀ p, L p → ∃ o, H p = some o
  lf : ∀ i p, p ∈ f i → ¬ L p
structure Stp (G H : Hp) (f : Addr → Prop) (G' H' : Hp) : Prop where
  keep : ∀ p o, H p = some o → ¬ f p → H' p = some o
  dom : ∀ p, H' p = none → H p = none
  gm : Le G G'
  gn : ∀ p o, G' p = some o → G p = some o ∨ f p ∨ H p = none
theorem Stp.refl {G H : Hp} {f : Addr → Prop} : Stp G H f G H := ⟨fun _ _ h _ => h, fun _ h => h, Le.refl _, fun _ _ h => .inl h⟩
theorem Stp.trans {G H G1 H1 G2 H2 : Hp} {f f1 : Addr → Prop} (a : Stp G H f G1 H1) (b : Stp G1 H1 f1 G2 H2) (d : ∀ p, f1 p → f p ∨ H p = none) : Stp G H f G2 H2 where
  keep := fun p o h n => b.keep p o (a.keep p o h n) fun k => by
    rcases d p k with z | z
    · exact n z
    · rw [z] at h; cases h
  dom := fun p h => a.dom p (b.dom p h)
  gm := a.gm.trans b.gm
  gn := fun p o h => by
    rcases b.gn p o h with h | h | h
    · exact a.gn p o h
    · exact .inr (d p h)
    · exact .inr (.inr (a.dom p h))
theorem Stp.tups {G H G' H' : Hp} {f : Addr → Prop} (a : Stp G H f G' H') (fm : ∀ p, f p → ∃ o, H p = some o ∧ Mutb o) : Tups H H' := by
  intro p xs h
  have nf : ∀ o, H p = some o → ¬ Mutb o → ¬ f p := fun o e n k => by
    obtain ⟨o', e', m⟩ := fm p k
    rw [e] at e'; cases e'
    exact n m
  rcases h with h | ⟨o, h⟩
  · exact .inl (a.keep p _ h (nf _ h (by rintro (⟨_, q⟩ | ⟨_, q⟩ | ⟨_, q⟩ | ⟨_, q⟩) <;> cases q)))
  · exact .inr ⟨o, a.keep p _ h (nf _ h (by rintro (⟨_, q⟩ | ⟨_, q⟩ | ⟨_, q⟩ | ⟨_, q⟩) <;> cases q))⟩
theorem SR.fm {K : Frag} {G H : Hp} {L : Addr → Prop} {σ : L2.St} {env : En} {f : Fps} (s : SR K G H L σ env f) : ∀ p, Owns f p → ∃ o, H p = some o ∧ Mutb o := by
  rintro p ⟨i, h⟩
  obtain ⟨n, d, e⟩ := s.own i p h
  obtain ⟨v, _, r⟩ := s.slot i _ _ e
  exact RepO.mutb r p h
theorem SR.ofG {K : Frag} {G H : Hp} {L : Addr → Prop} {σ : L2.St} {env : En} {f : Fps} (s : SR K G H L σ env f) {p : Addr} (h : H p = none) : G p = none := by
  cases e : G p with
  | none => rfl
  | some o =>
    rcases s.gh p o e with k | ⟨_, k⟩ <;> (rw [h] at k; cases k)
/-- behind a step: the state (env' at σ, f'), and what is held beside it at fv -/
structure Post (K : Frag) (G H : Hp) (L : Addr → Prop) (σ : L2.St) (F : Addr → Prop) (G' H' : Hp) (env' : En) (f' : Fps) (fv : List Addr) : Prop where
  stp : Stp G H F G' H'
  sr : SR K G' H' L σ env' f'
  nd : fv.Nodup
  dj : ∀ p ∈ fv, ¬ Owns f' p
  gf : ∀ p ∈ fv, G' p = none
  al : ∀ p ∈ fv, ∃ o, H' p = some o
  dom : ∀ p, Owns f' p ∨ p ∈ fv → F p ∨ H p = none
  nl : ∀ p ∈ fv, ¬ L p
section
variable {K : Frag} {G H G1 H1 G2 H2 : Hp} {L : Addr → Prop} {σ : L2.St} {env env1 env2 : En} {f f1 f2 : Fps} {fv1 fv2 : List Addr}
theorem Post.refl (s : SR K G H L σ env f) : Post K G H L σ (Owns f) G H env f [] :=
  ⟨Stp.refl, s, List.nodup_nil, fun _ h => absurd h (by simp), fun _ h => absurd h (by simp), fun _ h => absurd h (by simp), fun p h => by
    rcases h with h | h
    · exact .inl h
    · simp at h, fun _ h => absurd h (by simp)⟩
theorem Post.seq {σ' : L2.St} {F : Addr → Prop} (a : Post K G H L σ F G1 H1 env1 f1 fv1) (b : Post K G1 H1 L σ' (Owns f1) G2 H2 env2 f2 fv2) : Post K G H L σ' F G2 H2 env2 f2 (fv1 ++ fv2) := by
  have out : ∀ p ∈ fv1, ¬ (Owns f1 p ∨ H1 p = none) := fun p hp z => by
    rcases z with z | z
    · exact a.dj p hp z
    · obtain ⟨o, e⟩ := a.al p hp
      rw [z] at e; cases e
  refine ⟨a.stp.trans b.stp fun p h => a.dom p (.inl h), b.sr, ?_, fun p hp => ?_, fun p hp => ?_, fun p hp => ?_, fun p hp => ?_, fun p hp => (List.mem_append.mp hp).elim (a.nl p) (b.nl p)⟩
  · rw [List.nodup_append]
    refine ⟨a.nd, b.nd, fun x hx y hy e => ?_⟩
    subst e
    exact out x hx (b.dom x (.inr hy))
  · rcases List.mem_append.mp hp with h | h
    · exact fun z => out p h (b.dom p (.inl z))
    · exact b.dj p h
  · rcases List.mem_append.mp hp with h | h
    · cases e : G2 p with
      | none => rfl
      | some o =>
        rcases b.stp.gn p o e with z | z
        · rw [a.gf p h] at z; cases z
        · exact absurd z (out p h)
    · exact b.gf p h
  · rcases List.mem_append.mp hp with h | h
    · obtain ⟨o, e⟩ := a.al p h
      exact ⟨o, b.stp.keep p o e (a.dj p h)⟩
    · exact b.al p h
  · rcases hp with h | h
    · rcases b.dom p (.inl h) with z | z
      · exact a.dom p (.inl z)
      · exact .inr (a.stp.dom p z)
    · rcases List.mem_append.mp h with h | h
      · exact a.dom p (.inr h)
      · rcases b.dom p (.inr h) with z | z
        · exact a.dom p (.inl z)
        · exact .inr (a.stp.dom p z)
/-- less is held -/
theorem Post.drop {F : Addr → Prop} (a : Post K G H L σ F G1 H1 env1 f1 fv1) (h : ∀ p ∈ fv2, p ∈ fv1) (n : fv2.Nodup) : Post K G H L σ F G1 H1 env1 f1 fv2 :=
  ⟨a.stp, a.sr, n, fun p hp => a.dj p (h p hp), fun p hp => a.gf p (h p hp), fun p hp => a.al p (h p hp), fun p hp => a.dom p (hp.imp id (h p)), fun p hp => a.nl p (h p hp)⟩
theorem Post.drop0 {F : Addr → Prop} (a : Post K G H L σ F G1 H1 env1 f1 fv1) : Post K G H L σ F G1 H1 env1 f1 [] := a.drop (fun _ h => absurd h (by simp)) List.nodup_nil
def OwnsW (f : Fps) (fv : List Addr) : Addr → Prop := fun p => Owns f p ∨ p ∈ fv
/-- from where it stands, with what is held -/
theorem Post.here {F : Addr → Prop} (a : Post K G H L σ F G1 H1 env1 f1 fv1) : Post K G1 H1 L σ (OwnsW f1 fv1) G1 H1 env1 f1 fv1 :=
  ⟨Stp.refl, a.sr, a.nd, a.dj, a.gf, a.al, fun p h => .inl h, a.nl⟩
theorem Post.seqW {σ' : L2.St} {F : Addr → Prop} (a : Post K G H L σ F G1 H1 env1 f1 fv1) (b : Post K G1 H1 L σ' (OwnsW f1 fv1) G2 H2 env2 f2 fv2) : Post K G H L σ' F G2 H2 env2 f2 fv2 :=
  ⟨a.stp.trans b.stp a.dom, b.sr, b.nd, b.dj, b.gf, b.al, fun p h => by
    rcases b.dom p h with z | z
    · exact a.dom p z
    · exact .inr (a.stp.dom p z), b.nl⟩
/-- what is held beside a state stays behind a step -/
theorem RepO.step {σ' : L2.St} {F : Addr → Prop} (a : Post K G H L σ F G1 H1 env1 f1 fv1) (b : Post K G1 H1 L σ' (Owns f1) G2 H2 env2 f2 fv2) {n : Nat} {v : V} {d : D} (r : RepO K G1 H1 (At H1) n v d fv1) : RepO K G2 H2 (At H2) n v d fv1 :=
  r.mono (b.stp.tups a.sr.fm) b.stp.gm (fun p hp o e => b.stp.keep p o e (a.dj p hp)) fun p hp o e => b.stp.keep p o e (a.dj p hp)
theorem RepF.step {σ' : L2.St} (s : SR K G1 H1 L σ env1 f1) (b : Post K G1 H1 L σ' (Owns f1) G2 H2 env2 f2 fv2) {v : V} {d : D} (r : RepF K G1 H1 v d) : RepF K G2 H2 v d :=
  r.mono (b.stp.tups s.fm) b.stp.gm
end
/-- what a built-in makes: nothing that stands changes; what is new is at fv -/
def Res (K : Frag) (G H : Hp) (n : Nat) (d : D) (v : V) (H' : Hp) : Prop :=
  ∃ fv, Le H H' ∧ RepO K G H' (At H') n v d fv ∧ fv.Nodup ∧ ∀ p ∈ fv, H p = none
theorem Rd.le {H H' : Hp} (h : Le H H') {p : Addr} {o : HO} (r : Rd H p o) : Rd H' p o := by
  rcases r with r | ⟨q, r⟩
  · exact .inl (h _ _ r)
  · exact .inr ⟨q, h _ _ r⟩
theorem Tups.of_le {H H' : Hp} (h : Le H H') : Tups H H' := fun _ _ r => Rd.le h r
section
variable {K : Frag} {G H G1 H1 G2 H2 : Hp} {L : Addr → Prop} {σ : L2.St} {env env1 env2 : En} {f f1 f2 : Fps} {fv1 fv2 : List Addr}
theorem SlotR.le (h : Le H H1) {m : Md} {v : V} {d : D} {fp : List Addr} (r : SlotR K G H L m v d fp) : SlotR K G H1 L m v d fp := by
  cases m with
  | own n => exact RepO.mono (Tups.of_le h) (Le.refl _) r (fun p _ o e => h p o e) fun p _ o e => h p o e
  | lok n =>
    obtain ⟨e, fq, r, l⟩ := r
    exact ⟨e, fq, RepO.mono (Tups.of_le h) (Le.refl _) r (fun p _ o e => Rd.le h e) (fun p _ o e => h p o e), l⟩
theorem SR.le (s : SR K G H L σ env f) (h : Le H H1) : SR K G H1 L σ env f :=
  ⟨s.len, fun i m d e => let ⟨v, e1, r⟩ := s.slot i m d e; ⟨v, e1, r.le h⟩, s.own, s.nd, s.dj, fun p o e => Rd.le h (s.gh p o e), s.gf, fun p l => let ⟨o, e⟩ := s.lk p l; ⟨o, h p o e⟩, s.lf⟩
theorem Post.of_le (s : SR K G H L σ env f) (h : Le H H1) (n : fv1.Nodup) (new : ∀ p ∈ fv1, H p = none) (al : ∀ p ∈ fv1, ∃ o, H1 p = some o) : Post K G H L σ (Owns f) G H1 env f fv1 := by
  refine ⟨⟨fun p o e _ => h p o e, fun p e => ?_, Le.refl _, fun _ _ e => .inl e⟩, s.le h, n, fun p hp z => ?_, fun p hp => s.ofG (new p hp), al, fun p hp => ?_, fun p hp l => ?_⟩
  · cases q : H p with
    | none => rfl
    | some o => rw [h p o q] at e; cases e
  · obtain ⟨o, e, _⟩ := s.fm p z
    rw [new p hp] at e; cases e
  · rcases hp with h | h
    · exact .inl h
    · exact .inr (new p h)
  · obtain ⟨o, e⟩ := s.lk p l
    rw [new p hp] at e; cases e
theorem Res.post {n : Nat} {d : D} {v : V} (s : SR K G H L σ env f) (r : Res K G H n d v H1) : ∃ fv, Post K G H L σ (Owns f) G H1 env f fv ∧ RepO K G H1 (At H1) n v d fv := by
  obtain ⟨fv, h, r, nd, new⟩ := r
  exact ⟨fv, Post.of_le s h nd new fun p hp => let ⟨o, e, _⟩ := RepO.mutb r p hp; ⟨o, e⟩, r⟩
theorem Res.same {d : D} {v : V} (r : RepF K G H v d) : Res K G H 0 d v H := ⟨[], Le.refl _, .frz r, List.nodup_nil, fun _ h => absurd h (by simp)⟩
theorem le_upd {p : Addr} {o : HO} (h : H p = none) : Le H (upd H p o) := fun q u e => by rw [upd_ne (ne_of_none e h)]; exact e
theorem Res.newT {p : Addr} {vs : List V} {ds : List D} (h : H p = none) (z : vs.length ≤ sizeLine) (r : RepFs K G H vs ds) : Res K G H 0 (.tuple ds) (.ref p) (upd H p (.tup vs)) :=
  ⟨[], le_upd h, .frz (.tup (SqT.of upd_same) z (r.mono (Tups.of_le (le_upd h)) (Le.refl _))), List.nodup_nil, fun _ h => absurd h (by simp)⟩
theorem Res.newL {p : Addr} {vs : List V} {ds : List D} (h : H p = none) (z : vs.length ≤ sizeLine) (r : RepFs K G H vs ds) : Res K G H 1 (.list ds) (.ref p) (upd H p (.lst vs)) :=
  ⟨[p], le_upd h, .lst upd_same z (ROs.of (r.mono (Tups.of_le (le_upd h)) (Le.refl _))), by simp, fun q hq => by simp at hq; subst hq; exact h⟩
end
/-! ### readings -/
abbrev QE := Nat → D → En → Prop
abbrev WE := En → QE → Prop
def rdE (K : Frag) (w : WE) : TE := fun σ H Q => ∃ (G : Hp) (L : Addr → Prop) (env : En) (f : Fps) (P : QE), SR K G H L σ env f ∧ w env P ∧
  ∀ n d env', P n d env' → ∀ v G' H' f' fv, Post K G H L σ (Owns f) G' H' env' f' fv → RepO K G' H' (At H') n v d fv → Q v H'
/-- an operand: a temporary, or a slot that is looked at when the operation comes -/
inductive Opd where
  | tmp (n : Nat) (d : D)
  | sl (i : Nat)
def OpdR (K : Frag) (G H : Hp) (σ : L2.St) : Opd → V → List Addr → Prop
  | .tmp n d, v, fv => RepO K G H (At H) n v d fv
  | .sl i, v, fv => fv = [] ∧ σ[i]? = some (some v)
inductive OpdsR (K : Frag) (G H : Hp) (σ : L2.St) : List Opd → List V → List Addr → Prop
  | nil : OpdsR K G H σ [] [] []
  | cons {o : Opd} {v : V} {os : List Opd} {vs : List V} {f1 f2 : List Addr} : OpdR K G H σ o v f1 → OpdsR K G H σ os vs f2 → OpdsR K G H σ (o :: os) (v :: vs) (f1 ++ f2)
abbrev WO := En → (Opd → En → Prop) → Prop
abbrev WA := En → (List Opd → En → Prop) → Prop
def rdO (K : Frag) (w : WO) : TE := fun σ H Q => ∃ (G : Hp) (L : Addr → Prop) (env : En) (f : Fps) (P : Opd → En → Prop), SR K G H L σ env f ∧ w env P ∧
  ∀ o env', P o env' → ∀ v G' H' f' fv, Post K G H L σ (Owns f) G' H' env' f' fv → OpdR K G' H' σ o v fv → Q v H'
def rdA (K : Frag) (w : WA) : TA := fun σ H Q => ∃ (G : Hp) (L : Addr → Prop) (env : En) (f : Fps) (P : List Opd → En → Prop), SR K G H L σ env f ∧ w env P ∧
  ∀ os env', P os env' → ∀ vs G' H' f' fv, Post K G H L σ (Owns f) G' H' env' f' fv → OpdsR K G' H' σ os vs fv → Q vs H'
/-- what an operand is, when the operation comes: its depth, its data -/
def fetch (env : En) : Opd → (Nat → D → Prop) → Prop
  | .tmp n d, Q => Q n d
  | .sl i, Q => (∃ n d, env[i]? = some (some (.own n, d)) ∧ Q n d) ∨ ∃ n d, env[i]? = some (some (.lok n, d)) ∧ Q n d
def fetchs (env : En) : List Opd → (List (Nat × D) → Prop) → Prop
  | [], Q => Q []
  | o :: os, Q => fetch env o fun n d => fetchs env os fun xs => Q ((n, d) :: xs)
/-- an operand as it is looked at -/
def RepX (K : Frag) (G H : Hp) (n : Nat) (v : V) (d : D) : Prop := ∃ fp, RepO K G H (Rd H) n v d fp
inductive RepXs (K : Frag) (G H : Hp) : List (Nat × D) → List V → Prop
  | nil : RepXs K G H [] []
  | cons {n : Nat} {d : D} {v : V} {xs : List (Nat × D)} {vs : List V} : RepX K G H n v d → RepXs K G H xs vs → RepXs K G H ((n, d) :: xs) (v :: vs)
theorem RepO.x {K : Frag} {G H : Hp} {n : Nat} {v : V} {d : D} {fp : List Addr} (r : RepO K G H (At H) n v d fp) : RepX K G H n v d :=
  ⟨fp, r.mono (Tups.refl _) (Le.refl _) (fun _ _ _ e => .inl e) fun _ _ _ e => e⟩
section
variable {K : Frag} {G H : Hp} {L : Addr → Prop} {σ : L2.St} {env : En} {f : Fps}
theorem fetch_x (s : SR K G H L σ env f) {o : Opd} {v : V} {fv : List Addr} {Q : Nat → D → Prop} (r : OpdR K G H σ o v fv) (h : fetch env o Q) : ∃ n d, RepX K G H n v d ∧ Q n d := by
  cases o with
  | tmp n d => exact ⟨n, d, RepO.x r, h⟩
  | sl i =>
    obtain ⟨rfl, e⟩ := r
    rcases h with ⟨n, d, h1, h2⟩ | ⟨n, d, h1, h2⟩
    · obtain ⟨v', e', r⟩ := s.slot i _ _ h1
      rw [e] at e'
      cases e'
      exact ⟨n, d, RepO.x r, h2⟩
    · obtain ⟨v', e', r⟩ := s.slot i _ _ h1
      rw [e] at e'
      cases e'
      obtain ⟨_, fq, r, _⟩ := r
      exact ⟨n, d, ⟨fq, r⟩, h2⟩
theorem fetchs_x (s : SR K G H L σ env f) : ∀ {os : List Opd} {vs : List V} {fv : List Addr} {Q : List (Nat × D) → Prop}, OpdsR K G H σ os vs fv → fetchs env os Q → ∃ xs, RepXs K G H xs vs ∧ Q xs
  | _, _, _, _, .nil, h => ⟨[], .nil, h⟩
  | _, _, _, _, .cons r rs, h => by
    obtain ⟨n, d, x, q⟩ := fetch_x s r h
    obtain ⟨xs, y, q⟩ := fetchs_x s rs q
    exact ⟨_, .cons x y, q⟩
end
theorem pe_imp {X : Cx} {e : Expr} {t t' : TE} (h : PE X e t) (k : ∀ σ H Q, t' σ H Q → t σ H Q) : PE X e t' := ⟨fun pins s σ H Q I q => h.run pins s σ H Q I (k σ H Q q)⟩
theorem pa_imp {X : Cx} {e : List Expr} {t t' : TA} (h : PA X e t) (k : ∀ σ H Q, t' σ H Q → t σ H Q) : PA X e t' := ⟨fun pos pins s σ H Q I q => h.run pos pins s σ H Q I (k σ H Q q)⟩
section
variable {X : Cx} {e : Expr} {es : List Expr} {i : Nat}
/-! ### leaves -/
def wC (d : D) : WE := fun env Q => Q 0 d env
def wVar (i : Nat) : WE := fun env Q => ∃ d, env[i]? = some (some (.own 0, d)) ∧ Q 0 d env
def wMv (i : Nat) : WE := fun env Q => ∃ n d, env[i]? = some (some (.own n, d)) ∧ Q n d (env.set i none)
theorem snd_c {v : V} {d : D} (h : PE X e (tC v)) (hr : ∀ G H, RepF X.K G H v d) : PE X e (rdE X.K (wC d)) := pe_imp h fun σ H Q ⟨G, L, env, f, P, s, w, q⟩ =>
  q 0 d env w v G H f [] (.refl s) (.frz (hr G H))
theorem snd_var (h : PE X e (tVar i)) : PE X e (rdE X.K (wVar i)) := pe_imp h fun σ H Q ⟨G, L, env, f, P, s, ⟨d, e1, w⟩, q⟩ => by
  obtain ⟨v, e2, r⟩ := s.slot i _ _ e1
  obtain ⟨r, _⟩ := RepO.plain r
  exact ⟨v, e2, q 0 d env w v G H f [] (.refl s) (.frz r)⟩
/-- a slot's own things go out of the state -/
theorem SR.out {K : Frag} {G H : Hp} {L : Addr → Prop} {σ : L2.St} {env : En} {f : Fps} (s : SR K G H L σ env f) (i : Nat) : SR K G H L σ (env.set i none) (fun j => if j = i then [] else f j) := by
  have get : ∀ {j m d}, (env.set i none)[j]? = some (some (m, d)) → j ≠ i ∧ env[j]? = some (some (m, d)) := fun {j m d} e => by
    by_cases hj : i = j
    · subst hj
      rw [List.getElem?_set_self'] at e
      cases q : env[i]? <;> rw [q] at e <;> simp at e
    · rw [List.getElem?_set_ne hj] at e
      exact ⟨Ne.symm hj, e⟩
  have mem : ∀ {j p}, p ∈ (if j = i then [] else f j) → j ≠ i ∧ p ∈ f j := fun {j p} h => by
    by_cases hj : j = i
    · rw [if_pos hj] at h; simp at h
    · rw [if_neg hj] at h; exact ⟨hj, h⟩
  refine ⟨by rw [List.length_set]; exact s.len, fun j m d e => ?_, fun j p h => ?_, fun j => ?_, fun j k p n h h' => ?_, s.gh, fun j p h => s.gf j p (mem h).2, s.lk, fun j p h => s.lf j p (mem h).2⟩
  · obtain ⟨n, e⟩ := get e
    rw [if_neg n]
    exact s.slot j m d e
  · obtain ⟨n, h⟩ := mem h
    obtain ⟨a, d, e⟩ := s.own j p h
    exact ⟨a, d, by rw [List.getElem?_set_ne (Ne.symm n)]; exact e⟩
  · by_cases hj : j = i
    · rw [if_pos hj]; exact List.nodup_nil
    · rw [if_neg hj]; exact s.nd j
  · exact s.dj j k p n (mem h).2 (mem h').2
theorem Owns.out {f : Fps} {i : Nat} {p : Addr} (h : Owns (fun j => if j = i then [] else f j) p) : Owns f p ∧ ∃ j, j ≠ i ∧ p ∈ f j := by
  obtain ⟨j, h⟩ := h
  by_cases hj : j = i
  · simp only [if_pos hj] at h; simp at h
  · simp only [if_neg hj] at h; exact ⟨⟨j, h⟩, j, hj, h⟩
theorem snd_mv (h : PE X e (tVar i)) : PE X e (rdE X.K (wMv i)) := pe_imp h fun σ H Q ⟨G, L, env, f, P, s, ⟨n, d, e1, w⟩, q⟩ => by
  obtain ⟨v, e2, r⟩ := s.slot i _ _ e1
  refine ⟨v, e2, q n d _ w v G H _ (f i) ⟨Stp.refl, s.out i, s.nd i, fun p hp z => ?_, fun p hp => s.gf i p hp, fun p hp => let ⟨o, e, _⟩ := RepO.mutb r p hp; ⟨o, e⟩, fun p hp => ?_, fun p hp => s.lf i p hp⟩ r⟩
  · obtain ⟨_, j, n, h⟩ := z.out
    exact s.dj j i p n h hp
  · rcases hp with h | h
    · exact .inl h.out.1
    · exact .inl ⟨i, h⟩
/-! ### operands -/
def wEx (w : WE) : WO := fun env Q => w env fun n d env' => Q (.tmp n d) env'
def wSl (i : Nat) : WO := fun env Q => (∃ s, env[i]? = some (some s)) ∧ Q (.sl i) env
theorem snd_ex {w : WE} (h : PE X e (rdE X.K w)) : PE X e (rdO X.K (wEx w)) := pe_imp h fun σ H Q ⟨G, L, env, f, P, s, h, q⟩ =>
  ⟨G, L, env, f, _, s, h, fun n d env' h v G' H' f' fv p r => q _ _ h v G' H' f' fv p r⟩
theorem snd_sl (h : PE X e (tVar i)) : PE X e (rdO X.K (wSl i)) := pe_imp h fun σ H Q ⟨G, L, env, f, P, s, ⟨⟨⟨m, d⟩, e1⟩, h⟩, q⟩ => by
  obtain ⟨v, e2, r⟩ := s.slot i _ _ e1
  exact ⟨v, e2, q _ _ h v G H f [] (.refl s) ⟨rfl, e2⟩⟩
def wNil : WA := fun env Q => Q [] env
def wCons (a : WO) (b : WA) : WA := fun env Q => a env fun o env1 => b env1 fun os env2 => Q (o :: os) env2
theorem snd_nil : PA X [] (rdA X.K wNil) := pa_imp pa_nil fun σ H Q ⟨G, L, env, f, P, s, h, q⟩ => q _ _ h [] G H f [] (.refl s) .nil
theorem OpdR.step {K : Frag} {G H G1 H1 G2 H2 : Hp} {L : Addr → Prop} {σ : L2.St} {env1 env2 : En} {f1 f2 : Fps} {fv1 fv2 : List Addr} {F : Addr → Prop} (a : Post K G H L σ F G1 H1 env1 f1 fv1) (b : Post K G1 H1 L σ (Owns f1) G2 H2 env2 f2 fv2)
    {o : Opd} {v : V} (r : OpdR K G1 H1 σ o v fv1) : OpdR K G2 H2 σ o v fv1 := by
  cases o with
  | tmp n d => exact RepO.step a b r
  | sl i => exact r
theorem snd_cons {a : WO} {b : WA} (ha : PE X e (rdO X.K a)) (hb : PA X es (rdA X.K b)) (hs : starEach (e :: es) X.env = (false, eval e X.env) :: starEach es X.env) : PA X (e :: es) (rdA X.K (wCons a b)) :=
  pa_imp (pa_cons ha hb hs) fun σ H Q ⟨G, L, env, f, P, s, h, q⟩ => by
    refine ⟨G, L, env, f, _, s, h, fun o env1 h1 v1 G1 H1 f1 fv1 p1 r1 => ?_⟩
    refine ⟨G1, L, env1, f1, _, p1.sr, h1, fun os env2 h2 vs G2 H2 f2 fv2 p2 r2 => ?_⟩
    exact q _ _ h2 _ G2 H2 f2 _ (p1.seq p2) (.cons (OpdR.step p1 p2 r1) r2)
end
end Sq
/-! Sq3: operations on data -/
namespace Sq
open PySem PySem.Spec PyProof.Rows L2
/-! ### what a value looks like, by its data -/
def GH (G H : Hp) : Prop := ∀ p o, G p = some o → Rd H p o
section
variable {K : Frag} {G H : Hp} {n : Nat} {v : V}
theorem RepX.f {d : D} (l : isLeaf d = true) (r : RepX K G H n v d) : RepF K G H v d := by
  obtain ⟨fp, r⟩ := r
  cases r with
  | frz h => exact h
  | leaf _ h => exact h
  | lst _ _ _ => cases l
  | dck _ _ _ _ _ => cases l
  | dct _ _ _ _ _ => cases l
  | ins _ _ _ _ _ => cases l
theorem RepX.int {i : Int} (r : RepX K G H n v (.int i)) : v = .int i := by cases r.f rfl; rfl
theorem RepX.bl {i : Bool} (r : RepX K G H n v (.bool i)) : v = .bl i := by cases r.f rfl; rfl
theorem RepX.str {i : Str} (r : RepX K G H n v (.str i)) : v = .str i := by cases r.f rfl; rfl
theorem RepX.non (r : RepX K G H n v .none) : v = .non := by cases r.f rfl; rfl
theorem RepX.tup {ds : List D} (r : RepX K G H n v (.tuple ds)) : ∃ p vs, v = .ref p ∧ SqT K H p vs ∧ vs.length ≤ sizeLine ∧ RepFs K G H vs ds := by
  cases r.f rfl with
  | tup h z r => exact ⟨_, _, rfl, h, z, r⟩
theorem RepX.lst1 {ds : List D} (r : RepX K G H 1 v (.list ds)) : ∃ p vs, v = .ref p ∧ H p = some (.lst vs) ∧ vs.length ≤ sizeLine ∧ RepFs K G H vs ds := by
  obtain ⟨fp, r⟩ := r
  cases r with
  | leaf h => cases h
  | lst h z r => exact ⟨_, _, rfl, h, z, (ROs.plain r).1⟩
theorem RepX.lst {ds : List D} (g : GH G H) (hn : n ≤ 1) (r : RepX K G H n v (.list ds)) : ∃ p vs, v = .ref p ∧ SqL K H p vs ∧ vs.length ≤ sizeLine ∧ RepFs K G H vs ds := by
  match n, hn, r with
  | 1, _, r =>
    obtain ⟨p, vs, e, h, z, r⟩ := r.lst1
    exact ⟨p, vs, e, SqL.of h, z, r⟩
  | 0, _, ⟨fp, r⟩ =>
    cases r with
    | frz h =>
      cases h with
      | lst h z r => exact ⟨_, _, rfl, .inl (g _ _ h), z, r⟩
      | lstK h z r => exact ⟨_, _, rfl, .inr h, z, r⟩
theorem RepX.lstAny {ds : List D} (g : GH G H) (r : RepX K G H n v (.list ds)) : ∃ p vs, v = .ref p ∧ SqL K H p vs ∧ vs.length = ds.length := by
  obtain ⟨fp, r⟩ := r
  cases r with
  | frz h =>
    cases h with
    | lst h z r => exact ⟨_, _, rfl, .inl (g _ _ h), RepFs.length r⟩
    | lstK h z r => exact ⟨_, _, rfl, .inr h, RepFs.length r⟩
  | leaf h => cases h
  | lst h z r => exact ⟨_, _, rfl, SqL.of h, ROs.length r⟩
end
/-! ### data as the library reads it -/
section
variable {K : Frag} {G H : Hp}
mutual
theorem RepF.dp (g : GH G H) : ∀ {v : V} {d : D}, RepF K G H v d → d.canLay0 = true → Dp K H v d
  | _, _, .non, _ => .non
  | _, _, .bl b, _ => .bl b
  | _, _, .int i, _ => .int i
  | _, _, .str x, _ => .str x
  | _, _, .tup h _ r, c => .tup h (RepFs.dp g r (by simpa [PyData.canLay0] using c))
  | _, _, .lstK h _ r, c => .lst (.inr h) (RepFs.dp g r (by simpa [PyData.canLay0] using c))
  | _, _, .lst h _ r, c => .lst (.inl (g _ _ h)) (RepFs.dp g r (by simpa [PyData.canLay0] using c))
  | _, _, .dck _ _ _ _ _, c => by simp [PyData.canLay0] at c
  | _, _, .dct _ _ _ _ _, c => by simp [PyData.canLay0] at c
  | _, _, .ins _ _ _ _ _, c => by simp [PyData.canLay0] at c
theorem RepFs.dp (g : GH G H) : ∀ {v : List V} {d : List D}, RepFs K G H v d → PyData.canLayAll0 d = true → DpAll K H v d
  | _, _, .nil, _ => .nil
  | _, _, .cons h r, c => by
    simp only [PyData.canLayAll0, Bool.and_eq_true] at c
    exact .cons (RepF.dp g h c.1) (RepFs.dp g r c.2)
end
mutual
theorem RepO.dp (g : GH G H) : ∀ {n : Nat} {v : V} {d : D} {fp : List Addr}, RepO K G H (Rd H) n v d fp → d.canLay0 = true → Dp K H v d
  | _, _, _, _, .frz h, c => h.dp g c
  | _, _, _, _, .leaf _ h, c => h.dp g c
  | _, _, _, _, .lst h _ r, c => .lst (SqL.of h) (ROs.dp g r (by simpa [PyData.canLay0] using c))
  | _, _, _, _, .dck _ _ _ _ _, c => by simp [PyData.canLay0] at c
  | _, _, _, _, .dct _ _ _ _ _, c => by simp [PyData.canLay0] at c
  | _, _, _, _, .ins _ _ _ _ _, c => by simp [PyData.canLay0] at c
theorem ROs.dp (g : GH G H) : ∀ {n : Nat} {v : List V} {d : List D} {fp : List Addr}, ROs K G H (Rd H) n v d fp → PyData.canLayAll0 d = true → DpAll K H v d
  | _, _, _, _, .nil, _ => .nil
  | _, _, _, _, .cons h r, c => by
    simp only [PyData.canLayAll0, Bool.and_eq_true] at c
    exact .cons (RepO.dp g h c.1) (ROs.dp g r c.2)
end
theorem RepX.dp {n : Nat} {v : V} {d : D} (g : GH G H) (r : RepX K G H n v d) (c : d.canLay0 = true) : Dp K H v d := by
  obtain ⟨fp, r⟩ := r
  exact RepO.dp g r c
end
/-! ### operations -/
abbrev XD := Nat × D
abbrev OW := List XD → (Nat → D → Prop) → Prop
def BinS (X : Cx) (fn : Value → Value → Sem Value) (w : OW) : Prop := ∃ r : R2, OpR X fn r ∧ ∀ (G H : Hp) (n m : Nat) (d e : D) (v u : V) (P : Nat → D → Prop) (Q : VK), GH G H → RepX X.K G H n v d → RepX X.K G H m u e →
  w [(n, d), (m, e)] P → (∀ k z v' H', P k z → Res X.K G H k z v' H' → Q v' H') → r v u H Q
def CallS (X : Cx) (fn : Value) (w : OW) : Prop := ∃ r : List V → Hp → VK → Prop, CallR X fn r ∧ ∀ (G H : Hp) (xs : List XD) (vs : List V) (P : Nat → D → Prop) (Q : VK), GH G H → RepXs X.K G H xs vs →
  w xs P → (∀ k z v' H', P k z → Res X.K G H k z v' H' → Q v' H') → r vs H Q
def wOp (w : OW) (wa : WA) : WE := fun env Q => wa env fun os env' => fetchs env' os fun xs => w xs fun n d => Q n d env'
section
variable {X : Cx} {w : OW}
/-- two operands, then what is done with them -/
theorem op2 {wa wb : WO} {r : R2} {σ : L2.St} {H : Hp} {Q : VK}
    (k : ∀ (G H : Hp) (n m : Nat) (d e : D) (v u : V) (P : Nat → D → Prop) (Q : VK), GH G H → RepX X.K G H n v d → RepX X.K G H m u e → w [(n, d), (m, e)] P → (∀ k z v' H', P k z → Res X.K G H k z v' H' → Q v' H') → r v u H Q)
    (h : rdE X.K (wOp w (wCons wa (wCons wb wNil))) σ H Q) : rdO X.K wa σ H fun x H1 => rdO X.K wb σ H1 fun y H2 => r x y H2 Q := by
  obtain ⟨G, L, env, f, P, s, h, q⟩ := h
  refine ⟨G, L, env, f, _, s, h, fun o1 env1 h1 v1 G1 H1 f1 fv1 p1 r1 => ?_⟩
  refine ⟨G1, L, env1, f1, _, p1.sr, h1, fun o2 env2 h2 v2 G2 H2 f2 fv2 p2 r2 => ?_⟩
  obtain ⟨n, d, x1, h3⟩ := fetch_x p2.sr (OpdR.step p1 p2 r1) h2
  obtain ⟨m, e, x2, h4⟩ := fetch_x p2.sr r2 h3
  refine k G2 H2 n m d e v1 v2 _ Q p2.sr.gh x1 x2 h4 fun k z v' H' hp res => ?_
  obtain ⟨fv, p3, r3⟩ := res.post p2.sr
  have p := (p1.seq p2).drop0.seq p3
  exact q k z env2 hp v' G2 H' f2 fv p r3
theorem snd_bin {a b : Expr} {op : Operator} {pos : Pos} {wa wb : WO} (ho : BinS X (binaryOp op) w) (ha : PE X a (rdO X.K wa)) (hb : PE X b (rdO X.K wb)) : PE X (.BinOp a op b pos) (rdE X.K (wOp w (wCons wa (wCons wb wNil)))) := by
  obtain ⟨r, hr, k⟩ := ho
  exact pe_imp (pe_op hr ha hb) fun σ H Q h => op2 k h
theorem snd_cmp {a b : Expr} {op : CmpOp} {pos : Pos} {wa wb : WO} (ho : BinS X (compareOp op) w) (ha : PE X a (rdO X.K wa)) (hb : PE X b (rdO X.K wb)) (hm : behindInMarks op b = false) : PE X (.Compare a [op] [b] pos) (rdE X.K (wOp w (wCons wa (wCons wb wNil)))) := by
  obtain ⟨r, hr, k⟩ := ho
  exact pe_imp (pe_cmpR hr ha hb hm) fun σ H Q h => op2 k h
theorem opA {wa : WA} {r : List V → Hp → VK → Prop} {σ : L2.St} {H : Hp} {Q : VK}
    (k : ∀ (G H : Hp) (xs : List XD) (vs : List V) (P : Nat → D → Prop) (Q : VK), GH G H → RepXs X.K G H xs vs → w xs P → (∀ k z v' H', P k z → Res X.K G H k z v' H' → Q v' H') → r vs H Q)
    (h : rdE X.K (wOp w wa) σ H Q) : rdA X.K wa σ H fun vs H1 => r vs H1 Q := by
  obtain ⟨G, L, env, f, P, s, h, q⟩ := h
  refine ⟨G, L, env, f, _, s, h, fun os env1 h1 vs G1 H1 f1 fv1 p1 r1 => ?_⟩
  obtain ⟨xs, x, h2⟩ := fetchs_x p1.sr r1 h1
  refine k G1 H1 xs vs _ Q p1.sr.gh x h2 fun k z v' H' hp res => ?_
  obtain ⟨fv, p3, r3⟩ := res.post p1.sr
  exact q k z env1 hp v' G1 H' f1 fv (p1.drop0.seq p3) r3
theorem snd_callB {e : Expr} {es : List Expr} {x : Str} {id : String} {p pos : Pos} {wa : WA} (ho : CallS X (.builtin id) w) (hg : Gl X x) (hm : X.mg x = none) (hv : bootBuiltins x = some (.builtin id)) (hn : x ≠ "__name__") (hdb : (x == ("__debug__" : Str)) = false)
    (ha : PA X (e :: es) (rdA X.K wa)) (he : starEach (e :: es) X.env = (false, eval e X.env) :: starEach es X.env) (hpl : (backTo pos (starEach es X.env)).any (·.1) = false) : PE X (.Call (.Name x p) (e :: es) [] pos) (rdE X.K (wOp w wa)) := by
  obtain ⟨r, hr, k⟩ := ho
  exact pe_imp (pe_callB hr hg hm hv ha hn hdb he hpl) fun σ H Q h => opA k h
theorem snd_callT {e : Expr} {es : List Expr} {x : Str} {T : String} {p pos : Pos} {wa : WA} (ho : CallS X (.type T) w) (hg : Gl X x) (hm : X.mg x = none) (hv : bootBuiltins x = some (.type T)) (hn : x ≠ "__name__") (hdb : (x == ("__debug__" : Str)) = false)
    (ha : PA X (e :: es) (rdA X.K wa)) (he : starEach (e :: es) X.env = (false, eval e X.env) :: starEach es X.env) (hpl : (backTo pos (starEach es X.env)).any (·.1) = false) : PE X (.Call (.Name x p) (e :: es) [] pos) (rdE X.K (wOp w wa)) := by
  obtain ⟨r, hr, k⟩ := ho
  exact pe_imp (pe_callTy hr hg hm hv ha hn hdb he hpl) fun σ H Q h => opA k h
end
section
variable {K : Frag} {G H : Hp}
theorem Res.int (i : Int) : Res K G H 0 (.int i) (.int i) H := Res.same (.int i)
theorem Res.bl (b : Bool) : Res K G H 0 (.bool b) (.bl b) H := Res.same (.bl b)
theorem Res.str (x : Str) : Res K G H 0 (.str x) (.str x) H := Res.same (.str x)
end
/-! ### + - * // % ** -/
def CMulB (i j : Int) : Prop := i.natAbs.log2 + j.natAbs.log2 < 134000000
theorem CMulB.ok {i j : Int} (h : CMulB i j) : IntMulOk i j := by
  have b : ∀ x : Int, Builtin.Int.intBits x ≤ x.natAbs.log2 + 1 := fun x => by
    unfold Builtin.Int.intBits
    split <;> omega
  have h1 := b i
  have h2 := b j
  have h3 : i.natAbs.log2 + j.natAbs.log2 < 134000000 := h
  intro z
  rw [Bool.and_eq_true] at z
  have z3 := of_decide_eq_true (show decide _ = true from z.2)
  have e : bitsLine = 134217728 := by decide
  omega
def oAdd : OW
  | [(_, .int i), (_, .int j)], Q => Q 0 (.int (i + j))
  | [(_, .str x), (_, .str y)], Q => x.length + y.length ≤ sizeLine ∧ Q 0 (.str (x ++ y))
  | [(1, .list xs), (1, .list ys)], Q => xs.length + ys.length ≤ sizeLine ∧ Q 1 (.list (xs ++ ys))
  | [(_, .tuple xs), (_, .tuple ys)], Q => xs.length + ys.length ≤ sizeLine ∧ Q 0 (.tuple (xs ++ ys))
  | _, _ => False
def oSub : OW
  | [(_, .int i), (_, .int j)], Q => Q 0 (.int (i - j))
  | _, _ => False
def oMul : OW
  | [(_, .int i), (_, .int j)], Q => CMulB i j ∧ Q 0 (.int (i * j))
  | [(1, .list xs), (_, .int k)], Q => k < 2 ^ 62 ∧ -(2 ^ 62) ≤ k ∧ xs.length * k.toNat ≤ sizeLine ∧ Q 1 (.list (List.replicate k.toNat xs).flatten)
  | _, _ => False
def oDiv : OW
  | [(_, .int i), (_, .int j)], Q => 0 < j ∧ j.natAbs.log2 < 9000 ∧ Q 0 (.int (i / j))
  | _, _ => False
def oMod : OW
  | [(_, .int i), (_, .int j)], Q => 0 < j ∧ Q 0 (.int (i % j))
  | _, _ => False
def oPow : OW
  | [(_, .int i), (_, .int j)], Q => (0 ≤ j ∧ j ≤ 1000000 ∧ i.natAbs < 2 ^ 64) ∧ Q 0 (.int (i ^ j.toNat))
  | _, _ => False
section
variable {X : Cx}
theorem op_mulB : OpR X (binaryOp .Mult) (rI CMulB fun i j => .int (i * j)) := opI fun _ _ _ _ _ _ _ hc q => mul_int q hc.ok
theorem s_add : BinS X (binaryOp .Add) oAdd := by
  refine ⟨_, OpR.or op_add (OpR.or op_add_str (OpR.or op_cat op_catA)), fun G H n m d e v u P Q g x y h q => ?_⟩
  unfold oAdd at h
  split at h
  · rename_i heq; cases heq
    exact .inl ⟨_, _, x.int, y.int, q _ _ _ _ h (.int _)⟩
  · rename_i heq; cases heq
    exact .inr (.inl ⟨_, _, x.str, y.str, h.1, q _ _ _ _ h.2 (.str _)⟩)
  · rename_i heq; cases heq
    obtain ⟨p, vs, rfl, h1, z1, r1⟩ := x.lst1
    obtain ⟨p', vs', rfl, h2, z2, r2⟩ := y.lst1
    have e1 := RepFs.length r1
    have e2 := RepFs.length r2
    exact .inr (.inr (.inl ⟨p, p', vs, vs', rfl, rfl, h1, h2, by omega, fun b hb => q _ _ _ _ h.2 (.newL hb (by rw [List.length_append]; omega) (r1.append r2))⟩))
  · rename_i heq; cases heq
    obtain ⟨p, vs, rfl, h1, z1, r1⟩ := x.tup
    obtain ⟨p', vs', rfl, h2, z2, r2⟩ := y.tup
    have e1 := RepFs.length r1
    have e2 := RepFs.length r2
    refine .inr (.inr (.inr ⟨p, p', vs, vs', rfl, rfl, h1, h2, by omega, fun e => ?_, fun _ e => ?_, fun _ _ b hb => q _ _ _ _ h.2 (.newT hb (by rw [List.length_append]; omega) (r1.append r2))⟩))
    · subst e
      cases r1
      exact q _ _ _ _ h.2 (.same (.tup h2 z2 r2))
    · subst e
      cases r2
      rw [List.append_nil] at h
      exact q _ _ _ _ h.2 (.same (.tup h1 z1 r1))
  · exact h.elim
theorem s_sub : BinS X (binaryOp .Sub) oSub := by
  refine ⟨_, op_sub, fun G H n m d e v u P Q g x y h q => ?_⟩
  unfold oSub at h
  split at h
  · rename_i heq; cases heq
    exact ⟨_, _, x.int, y.int, q _ _ _ _ h (.int _)⟩
  · exact h.elim
theorem s_mul : BinS X (binaryOp .Mult) oMul := by
  refine ⟨_, OpR.or op_mulB op_rep, fun G H n m d e v u P Q g x y h q => ?_⟩
  unfold oMul at h
  split at h
  · rename_i heq; cases heq
    exact .inl ⟨_, _, x.int, y.int, h.1, q _ _ _ _ h.2 (.int _)⟩
  · rename_i heq; cases heq
    obtain ⟨p, vs, rfl, h1, z1, r1⟩ := x.lst1
    have e1 := RepFs.length r1
    refine .inr ⟨p, _, vs, rfl, y.int, h1, by omega, by omega, by rw [e1]; exact h.2.2.1, fun b hb => q _ _ _ _ h.2.2.2 (.newL hb ?_ (r1.rep _))⟩
    rw [lm_len_rep_flat, e1, Nat.mul_comm]
    exact h.2.2.1
  · exact h.elim
theorem s_div : BinS X (binaryOp .FloorDiv) oDiv := by
  refine ⟨_, op_fdivW, fun G H n m d e v u P Q g x y h q => ?_⟩
  unfold oDiv at h
  split at h
  · rename_i heq; cases heq
    exact ⟨_, _, x.int, y.int, ⟨h.1, h.2.1⟩, q _ _ _ _ h.2.2 (.int _)⟩
  · exact h.elim
theorem s_mod : BinS X (binaryOp .Mod) oMod := by
  refine ⟨_, op_mod, fun G H n m d e v u P Q g x y h q => ?_⟩
  unfold oMod at h
  split at h
  · rename_i heq; cases heq
    exact ⟨_, _, x.int, y.int, h.1, q _ _ _ _ h.2 (.int _)⟩
  · exact h.elim
/-! ### comparisons -/
def oEq : OW
  | [(_, .int i), (_, .int j)], Q => Q 0 (.bool (decide (i = j)))
  | [(_, .str i), (_, .str j)], Q => Q 0 (.bool (decide (i = j)))
  | [(_, .bool i), (_, .bool j)], Q => Q 0 (.bool (decide (i = j)))
  | [(_, d), (_, e)], Q => (SeqAt.shaped d = true ∧ SeqAt.shaped e = true) ∧ Q 0 (.bool (PyData.eqv d e))
  | _, _ => False
def oNe : OW
  | [(_, .int i), (_, .int j)], Q => Q 0 (.bool (!decide (i = j)))
  | [(_, .str i), (_, .str j)], Q => Q 0 (.bool (!decide (i = j)))
  | [(_, .bool i), (_, .bool j)], Q => Q 0 (.bool (!decide (i = j)))
  | [(_, d), (_, e)], Q => (SeqAt.shaped d = true ∧ SeqAt.shaped e = true) ∧ Q 0 (.bool (!PyData.eqv d e))
  | _, _ => False
theorem s_eq (hu : X.A.units + 64 < cLine) : BinS X (compareOp .Eq) oEq := by
  refine ⟨_, OpR.or op_eq (op_eqD hu), fun G H n m d e v u P Q g x y h q => ?_⟩
  unfold oEq at h
  split at h
  · rename_i heq; cases heq
    cases x.int; cases y.int
    exact .inl ⟨rfl, by have z := q _ _ _ _ h (.bl _); simpa using z⟩
  · rename_i heq; cases heq
    cases x.str; cases y.str
    exact .inl ⟨rfl, by have z := q _ _ _ _ h (.bl _); simpa using z⟩
  · rename_i heq; cases heq
    cases x.bl; cases y.bl
    exact .inl ⟨rfl, by have z := q _ _ _ _ h (.bl _); simpa using z⟩
  · rename_i heq; cases heq
    exact .inr ⟨_, _, x.dp g (SeqAt.canLay_of_shaped h.1.1), y.dp g (SeqAt.canLay_of_shaped h.1.2), h.1.1, h.1.2, q _ _ _ _ h.2 (.bl _)⟩
  · exact h.elim
theorem s_ne (hu : X.A.units + 64 < cLine) : BinS X (compareOp .NotEq) oNe := by
  refine ⟨_, OpR.or op_ne (op_neD hu), fun G H n m d e v u P Q g x y h q => ?_⟩
  unfold oNe at h
  split at h
  · rename_i heq; cases heq
    cases x.int; cases y.int
    exact .inl ⟨rfl, by have z := q _ _ _ _ h (.bl _); simpa using z⟩
  · rename_i heq; cases heq
    cases x.str; cases y.str
    exact .inl ⟨rfl, by have z := q _ _ _ _ h (.bl _); simpa using z⟩
  · rename_i heq; cases heq
    cases x.bl; cases y.bl
    exact .inl ⟨rfl, by have z := q _ _ _ _ h (.bl _); simpa using z⟩
  · rename_i heq; cases heq
    exact .inr ⟨_, _, x.dp g (SeqAt.canLay_of_shaped h.1.1), y.dp g (SeqAt.canLay_of_shaped h.1.2), h.1.1, h.1.2, q _ _ _ _ h.2 (.bl _)⟩
  · exact h.elim
def asInts : List D → Option (List Int)
  | [] => some []
  | .int i :: ds => (asInts ds).map (i :: ·)
  | _ => none
theorem asInts_eq : ∀ {ds : List D} {ns : List Int}, asInts ds = some ns → ds = ns.map .int
  | [], ns, h => by cases h; rfl
  | .int i :: ds, ns, h => by
    simp only [asInts, Option.map_eq_some_iff] at h
    obtain ⟨ms, e, rfl⟩ := h
    rw [asInts_eq e]
    rfl
  | .none :: _, _, h => by cases h
  | .bool _ :: _, _, h => by cases h
  | .str _ :: _, _, h => by cases h
  | .list _ :: _, _, h => by cases h
  | .tuple _ :: _, _, h => by cases h
  | .dict _ :: _, _, h => by cases h
@[simp] theorem asInts_map (ns : List Int) : asInts (ns.map .int) = some ns := by
  induction ns with
  | nil => rfl
  | cons n ns ih => simp [asInts, ih]
def oLt : OW
  | [(_, .int i), (_, .int j)], Q => Q 0 (.bool (decide (i < j)))
  | [(_, .tuple xs), (_, .tuple ys)], Q => ∃ ns ms, asInts xs = some ns ∧ asInts ys = some ms ∧ Q 0 (.bool (HT.lexLt ns ms))
  | _, _ => False
def oLe : OW
  | [(_, .int i), (_, .int j)], Q => Q 0 (.bool (decide (i ≤ j)))
  | _, _ => False
def oGt : OW
  | [(_, .int i), (_, .int j)], Q => Q 0 (.bool (decide (j < i)))
  | _, _ => False
def oGe : OW
  | [(_, .int i), (_, .int j)], Q => Q 0 (.bool (decide (j ≤ i)))
  | _, _ => False
theorem s_lt (hu : X.A.units + 64 < cLine) : BinS X (compareOp .Lt) oLt := by
  refine ⟨_, OpR.or op_lt (op_ltT (by omega)), fun G H n m d e v u P Q g x y h q => ?_⟩
  unfold oLt at h
  split at h
  · rename_i heq; cases heq
    exact .inl ⟨_, _, x.int, y.int, q _ _ _ _ h (.bl _)⟩
  · rename_i heq; cases heq
    obtain ⟨ns, ms, e1, e2, h⟩ := h
    obtain ⟨p, vs, rfl, h1, z1, r1⟩ := x.tup
    obtain ⟨p', vs', rfl, h2, z2, r2⟩ := y.tup
    rw [asInts_eq e1] at r1
    rw [asInts_eq e2] at r2
    cases RepFs.ints r1
    cases RepFs.ints r2
    exact .inr ⟨p, p', ns, ms, rfl, rfl, h1, h2, q _ _ _ _ h (.bl _)⟩
  · exact h.elim
theorem s_gt : BinS X (compareOp .Gt) oGt := by
  refine ⟨_, op_gt, fun G H n m d e v u P Q g x y h q => ?_⟩
  unfold oGt at h
  split at h
  · rename_i heq; cases heq
    exact ⟨_, _, x.int, y.int, q _ _ _ _ h (.bl _)⟩
  · exact h.elim
theorem s_ge : BinS X (compareOp .GtE) oGe := by
  refine ⟨_, op_ge, fun G H n m d e v u P Q g x y h q => ?_⟩
  unfold oGe at h
  split at h
  · rename_i heq; cases heq
    exact ⟨_, _, x.int, y.int, q _ _ _ _ h (.bl _)⟩
  · exact h.elim
def isNone : D → Bool
  | .none => true
  | _ => false
def oIsN : OW
  | [(_, d), (_, .none)], Q => Q 0 (.bool (isNone d))
  | _, _ => False
def oNotN : OW
  | [(_, d), (_, .none)], Q => Q 0 (.bool (!isNone d))
  | _, _ => False
/-! ### built-in functions -/
def oLen : OW
  | [(_, .list xs)], Q => Q 0 (.int xs.length)
  | [(_, .tuple xs)], Q => Q 0 (.int xs.length)
  | [(_, .str x)], Q => x.length ≤ sizeLine ∧ Q 0 (.int x.length)
  | _, _ => False
theorem RepXs.one {K : Frag} {G H : Hp} {n : Nat} {d : D} {vs : List V} (r : RepXs K G H [(n, d)] vs) : ∃ v, vs = [v] ∧ RepX K G H n v d := by
  cases r with
  | cons h t =>
    cases t
    exact ⟨_, rfl, h⟩
theorem RepXs.two {K : Frag} {G H : Hp} {n m : Nat} {d e : D} {vs : List V} (r : RepXs K G H [(n, d), (m, e)] vs) : ∃ v u, vs = [v, u] ∧ RepX K G H n v d ∧ RepX K G H m u e := by
  cases r with
  | cons h t =>
    obtain ⟨u, rfl, k⟩ := t.one
    exact ⟨_, _, rfl, h, k⟩
theorem s_len : CallS X (.builtin "len") oLen := by
  refine ⟨_, CallR.or call_len_seq call_len_str, fun G H xs vs P Q g r h q => ?_⟩
  unfold oLen at h
  split at h
  · obtain ⟨v, rfl, x⟩ := r.one
    obtain ⟨p, ws, rfl, h1, e⟩ := x.lstAny g
    refine .inl ⟨p, ws, rfl, .inl h1, ?_⟩
    rw [e]
    exact q _ _ _ _ h (.int _)
  · obtain ⟨v, rfl, x⟩ := r.one
    obtain ⟨p, ws, rfl, h1, z, rs⟩ := x.tup
    refine .inl ⟨p, ws, rfl, .inr h1, ?_⟩
    rw [RepFs.length rs]
    exact q _ _ _ _ h (.int _)
  · obtain ⟨v, rfl, x⟩ := r.one
    cases x.str
    exact .inr ⟨_, rfl, h.1, q _ _ _ _ h.2 (.int _)⟩
  · exact h.elim
def oAbs : OW
  | [(_, .int i)], Q => Q 0 (.int i.natAbs)
  | _, _ => False
theorem s_abs : CallS X (.builtin "abs") oAbs := by
  refine ⟨_, call_abs, fun G H xs vs P Q g r h q => ?_⟩
  unfold oAbs at h
  split at h
  · obtain ⟨v, rfl, x⟩ := r.one
    cases x.int
    rename_i i
    refine ⟨i, rfl, ?_⟩
    have e : (if i < 0 then -i else i) = (i.natAbs : Int) := by split <;> omega
    rw [e]
    exact q _ _ _ _ h (.int _)
  · exact h.elim
def oMax2 : OW
  | [(_, .int i), (_, .int j)], Q => Q 0 (.int (max i j))
  | _, _ => False
def oMin2 : OW
  | [(_, .int i), (_, .int j)], Q => Q 0 (.int (min i j))
  | _, _ => False
theorem s_max2 (hc : X.calm = true) : CallS X (.builtin "max") oMax2 := by
  refine ⟨_, call_max2 hc, fun G H xs vs P Q g r h q => ?_⟩
  unfold oMax2 at h
  split at h
  · obtain ⟨v, u, rfl, x, y⟩ := r.two
    cases x.int; cases y.int
    refine ⟨_, _, rfl, ?_⟩
    have e : ∀ i j : Int, (if j > i then j else i) = max i j := fun i j => by split <;> omega
    rw [e]
    exact q _ _ _ _ h (.int _)
  · exact h.elim
theorem s_min2 (hc : X.calm = true) : CallS X (.builtin "min") oMin2 := by
  refine ⟨_, call_min2 hc, fun G H xs vs P Q g r h q => ?_⟩
  unfold oMin2 at h
  split at h
  · obtain ⟨v, u, rfl, x, y⟩ := r.two
    cases x.int; cases y.int
    refine ⟨_, _, rfl, ?_⟩
    have e : ∀ i j : Int, (if j < i then j else i) = min i j := fun i j => by split <;> omega
    rw [e]
    exact q _ _ _ _ h (.int _)
  · exact h.elim
def oInt : OW
  | [(_, .int i)], Q => Q 0 (.int i)
  | [(_, .bool b)], Q => Q 0 (.int (if b then 1 else 0))
  | [(_, .str x)], Q => ∃ n, PySem.intText? x = some n ∧ x.length ≤ 640 ∧ Q 0 (.int n)
  | _, _ => False
theorem s_int : CallS X (.type "int") oInt := by
  refine ⟨_, CallR.or call_int1 call_int_str, fun G H xs vs P Q g r h q => ?_⟩
  unfold oInt at h
  split at h
  · obtain ⟨v, rfl, x⟩ := r.one
    cases x.int
    exact .inl (.inl ⟨_, rfl, q _ _ _ _ h (.int _)⟩)
  · obtain ⟨v, rfl, x⟩ := r.one
    cases x.bl
    exact .inl (.inr ⟨_, rfl, q _ _ _ _ h (.int _)⟩)
  · obtain ⟨v, rfl, x⟩ := r.one
    cases x.str
    obtain ⟨n, e, z, h⟩ := h
    exact .inr ⟨_, n, rfl, e, z, q _ _ _ _ h (.int _)⟩
  · exact h.elim
def oTuple : OW
  | [(n, .list xs)], Q => n ≤ 1 ∧ Q 0 (.tuple xs)
  | [(_, .tuple xs)], Q => Q 0 (.tuple xs)
  | _, _ => False
theorem s_tuple : CallS X (.type "tuple") oTuple := by
  refine ⟨_, call_tuple_of, fun G H xs vs P Q g r h q => ?_⟩
  unfold oTuple at h
  split at h
  · obtain ⟨v, rfl, x⟩ := r.one
    obtain ⟨p, ws, rfl, h1, z, rs⟩ := x.lst g h.1
    exact ⟨p, ws, rfl, .inl ⟨h1, fun l hl => q _ _ _ _ h.2 (.newT hl z rs)⟩⟩
  · obtain ⟨v, rfl, x⟩ := r.one
    obtain ⟨p, ws, rfl, h1, z, rs⟩ := x.tup
    exact ⟨p, ws, rfl, .inr ⟨h1, q _ _ _ _ h (.same (.tup h1 z rs))⟩⟩
  · exact h.elim
def oList : OW
  | [(n, .list xs)], Q => n ≤ 1 ∧ Q 1 (.list xs)
  | [(_, .tuple xs)], Q => Q 1 (.list xs)
  | _, _ => False
theorem s_list : CallS X (.type "list") oList := by
  refine ⟨_, call_list_of, fun G H xs vs P Q g r h q => ?_⟩
  unfold oList at h
  split at h
  · obtain ⟨v, rfl, x⟩ := r.one
    obtain ⟨p, ws, rfl, h1, z, rs⟩ := x.lst g h.1
    exact ⟨p, ws, rfl, .inl h1, fun l hl => q _ _ _ _ h.2 (.newL hl z rs)⟩
  · obtain ⟨v, rfl, x⟩ := r.one
    obtain ⟨p, ws, rfl, h1, z, rs⟩ := x.tup
    exact ⟨p, ws, rfl, .inr h1, fun l hl => q _ _ _ _ h (.newL hl z rs)⟩
  · exact h.elim
/-- what repr asks of data -/
def reprOk (d : D) : Prop := d.canLay0 = true ∧ d.showable = true ∧ d.depth ≤ 64 ∧ d.shown.length ≤ sizeLine
def oRepr : OW
  | [(_, d)], Q => reprOk d ∧ Q 0 (.str d.shown)
  | _, _ => False
end
end Sq
/-! Sq4: tests, displays, items, slices -/
namespace Sq
open PySem PySem.Spec PyProof.Rows L2
/-! ### tests -/
abbrev WT := En → (Bool → En → Prop) → Prop
def rdT (K : Frag) (w : WT) : TT := fun σ H Q => ∃ (G : Hp) (L : Addr → Prop) (env : En) (f : Fps) (P : Bool → En → Prop), SR K G H L σ env f ∧ w env P ∧
  ∀ b env', P b env' → ∀ G' H' f', Post K G H L σ (Owns f) G' H' env' f' [] → Q b H'
theorem pt_imp {X : Cx} {e : Expr} {t t' : TT} (h : PT X e t) (k : ∀ σ H Q, t' σ H Q → t σ H Q) : PT X e t' := ⟨fun pins s σ H Q I q => h.run pins s σ H Q I (k σ H Q q)⟩
theorem pw_imp {X : Cx} {e : Expr} {t t' : TT} (h : PW X e t) (k : ∀ σ H Q, t' σ H Q → t σ H Q) : PW X e t' := ⟨fun wh pins s σ H Q I q => h.run wh pins s σ H Q I (k σ H Q q)⟩
def wT (w : WE) : WT := fun env Q => w env fun n d env' => ∃ b, d = .bool b ∧ Q b env'
def wAndT (a b : WT) : WT := fun env Q => a env fun c e1 => if c = true then b e1 Q else Q false e1
def wOrT (a b : WT) : WT := fun env Q => a env fun c e1 => if c = true then Q true e1 else b e1 Q
def wNotT (a : WT) : WT := fun env Q => a env fun c e1 => Q (!c) e1
section
variable {X : Cx} {e a b : Expr} {pos : Pos}
theorem rdT_of {w : WE} {σ : L2.St} {H : Hp} {Q : Bool → Hp → Prop} (h : rdT X.K (wT w) σ H Q) : rdE X.K w σ H fun x H1 => ∃ k, x = .bl k ∧ Q k H1 := by
  obtain ⟨G, L, env, f, P, s, h, q⟩ := h
  refine ⟨G, L, env, f, _, s, h, ?_⟩
  rintro n d env' ⟨b, rfl, hp⟩ v G' H' f' fv p r
  exact ⟨b, (RepO.x r).bl, q b env' hp G' H' f' p.drop0⟩
theorem snd_tcmp {op : CmpOp} {wa wb : WO} {w : OW} (ho : BinS X (compareOp op) w) (ha : PE X a (rdO X.K wa)) (hb : PE X b (rdO X.K wb)) (hm : behindInMarks op b = false) : PT X (.Compare a [op] [b] pos) (rdT X.K (wT (wOp w (wCons wa (wCons wb wNil))))) := by
  obtain ⟨r, hr, k⟩ := ho
  exact pt_imp (pt_cmpR hr ha hb hm) fun σ H Q q => op2 k (rdT_of q)
theorem snd_and1 {t : WT} (h : PT X a (rdT X.K t)) : PW X (.BoolOp .And [a] pos) (rdT X.K t) := pw_and1 h
theorem snd_or1 {t : WT} (h : PT X a (rdT X.K t)) : PW X (.BoolOp .Or [a] pos) (rdT X.K t) := pw_or1 h
theorem snd_and {t u : WT} {r : List Expr} (h : PT X a (rdT X.K t)) (k : PW X (.BoolOp .And (b :: r) pos) (rdT X.K u)) : PW X (.BoolOp .And (a :: b :: r) pos) (rdT X.K (wAndT t u)) :=
  pw_imp (pw_and h k) fun σ H Q ⟨G, L, env, f, P, s, h, q⟩ => by
    refine ⟨G, L, env, f, _, s, h, fun c e1 hp G1 H1 f1 p1 => ?_⟩
    cases c with
    | true =>
      refine iteT ⟨G1, L, e1, f1, _, p1.sr, by simpa using hp, fun c2 e2 hp2 G2 H2 f2 p2 => q c2 e2 hp2 G2 H2 f2 (p1.seq p2).drop0⟩
    | false => exact iteF (q false e1 (by simpa using hp) G1 H1 f1 p1)
theorem snd_or {t u : WT} {r : List Expr} (h : PT X a (rdT X.K t)) (k : PW X (.BoolOp .Or (b :: r) pos) (rdT X.K u)) : PW X (.BoolOp .Or (a :: b :: r) pos) (rdT X.K (wOrT t u)) :=
  pw_imp (pw_or h k) fun σ H Q ⟨G, L, env, f, P, s, h, q⟩ => by
    refine ⟨G, L, env, f, _, s, h, fun c e1 hp G1 H1 f1 p1 => ?_⟩
    cases c with
    | false =>
      refine iteF ⟨G1, L, e1, f1, _, p1.sr, by simpa using hp, fun c2 e2 hp2 G2 H2 f2 p2 => q c2 e2 hp2 G2 H2 f2 (p1.seq p2).drop0⟩
    | true => exact iteT (q true e1 (by simpa using hp) G1 H1 f1 p1)
theorem snd_not {t : WT} (h : PT X a (rdT X.K t)) : PT X (.UnaryOp .Not a pos) (rdT X.K (wNotT t)) :=
  pt_imp (pt_not h) fun σ H Q ⟨G, L, env, f, P, s, h, q⟩ => ⟨G, L, env, f, _, s, h, fun c e1 hp G1 H1 f1 p1 => q _ e1 hp G1 H1 f1 p1⟩
def wIte (t : WT) (a b : WE) : WE := fun env Q => t env fun c e1 => if c = true then a e1 Q else b e1 Q
theorem snd_ite {c : Expr} {t : WT} {wa wb : WE} (hc : PT X c (rdT X.K t)) (ha : PE X a (rdE X.K wa)) (hb : PE X b (rdE X.K wb)) : PE X (.IfExp c a b pos) (rdE X.K (wIte t wa wb)) :=
  pe_imp (pe_ifExp hc ha hb) fun σ H Q ⟨G, L, env, f, P, s, h, q⟩ => by
    refine ⟨G, L, env, f, _, s, h, fun c e1 hp G1 H1 f1 p1 => ?_⟩
    cases c with
    | true => exact iteT ⟨G1, L, e1, f1, _, p1.sr, by simpa using hp, fun n d e2 hp2 v G2 H2 f2 fv p2 r => q n d e2 hp2 v G2 H2 f2 fv (p1.seq p2) r⟩
    | false => exact iteF ⟨G1, L, e1, f1, _, p1.sr, by simpa using hp, fun n d e2 hp2 v G2 H2 f2 fv p2 r => q n d e2 hp2 v G2 H2 f2 fv (p1.seq p2) r⟩
/-- and, or, not as values -/
def wAndV (a b : WE) : WE := fun env Q => a env fun _ d e1 => ∃ c, d = .bool c ∧ if c = true then b e1 Q else Q 0 (.bool false) e1
def wOrV (a b : WE) : WE := fun env Q => a env fun _ d e1 => ∃ c, d = .bool c ∧ if c = true then Q 0 (.bool true) e1 else b e1 Q
def wNotV (a : WE) : WE := fun env Q => a env fun _ d e1 => ∃ c, d = .bool c ∧ Q 0 (.bool (!c)) e1
/-- -x -/
def oNeg : OW
  | [(_, .int i)], Q => Q 0 (.int (-i))
  | _, _ => False
theorem snd_neg {wa : WO} (h : PE X a (rdO X.K wa)) : PE X (.UnaryOp .USub a pos) (rdE X.K (wOp oNeg (wCons wa wNil))) :=
  pe_imp (pe_un un_neg h) fun σ H Q ⟨G, L, env, f, P, s, h, q⟩ => by
    refine ⟨G, L, env, f, _, s, h, fun o e1 hp v G1 H1 f1 fv p1 r1 => ?_⟩
    obtain ⟨n, d, x, hp⟩ := fetch_x p1.sr r1 hp
    have hp : oNeg [(n, d)] (fun n d => P n d e1) := hp
    unfold oNeg at hp
    split at hp
    · rename_i heq; cases heq
      exact ⟨_, x.int, q 0 _ e1 hp _ G1 H1 f1 [] p1.drop0 (.frz (.int _))⟩
    · exact hp.elim
/-- a op b op' c -/
def wChain (w w' : OW) (a b c : WO) : WE := fun env Q => a env fun oa e1 => b e1 fun ob e2 => fetch e2 oa fun n d => fetch e2 ob fun m e => w [(n, d), (m, e)] fun _ z => ∃ k, z = .bool k ∧
  if k = true then c e2 fun oc e3 => fetch e3 ob fun m' e' => fetch e3 oc fun l g => w' [(m', e'), (l, g)] fun j y => Q j y e3 else Q 0 (.bool false) e2
/-! ### truth -/
def truD : D → (Bool → Prop) → Prop
  | .none, Q => Q false
  | .bool b, Q => Q b
  | .int i, Q => Q (i != 0)
  | .str y, Q => y.length ≤ sizeLine ∧ Q ((y.length : Int) != 0)
  | .list xs, Q => Q (!xs.isEmpty)
  | .tuple xs, Q => Q (!xs.isEmpty)
  | .dict _, _ => False
def wTru (o : WO) : WT := fun env Q => o env fun od e1 => fetch e1 od fun _ d => truD d fun b => Q b e1
theorem isEmpty_len {α β : Type} {xs : List α} {ys : List β} (h : xs.length = ys.length) : xs.isEmpty = ys.isEmpty := by
  cases xs <;> cases ys <;> first | rfl | simp at h
theorem snd_tru {wa : WO} (ha : PE X a (rdO X.K wa)) (he : ∀ whole, isTrue a X.env whole = (do let v ← whole; standAt a.pos; holding [v] (truthy v))) : PT X a (rdT X.K (wTru wa)) :=
  pt_imp (pt_truth ha he) fun σ H Q ⟨G, L, env, f, P, s, h, q⟩ => by
    refine ⟨G, L, env, f, _, s, h, fun o e1 hp v G1 H1 f1 fv p1 r1 => ?_⟩
    obtain ⟨n, d, x, hp⟩ := fetch_x p1.sr r1 hp
    have q1 := fun b hb => q b e1 hb G1 H1 f1 p1.drop0
    cases d with
    | none => cases x.non; exact ⟨_, rfl, q1 _ hp⟩
    | bool b => cases x.bl; exact ⟨_, rfl, q1 _ hp⟩
    | int i => cases x.int; exact ⟨_, rfl, q1 _ hp⟩
    | str y => cases x.str; exact ⟨_, ⟨hp.1, rfl⟩, q1 _ hp.2⟩
    | list xs =>
      obtain ⟨p, vs, rfl, hx, e⟩ := x.lstAny p1.sr.gh
      exact ⟨_, .inl ⟨vs, hx, rfl⟩, by rw [isEmpty_len e]; exact q1 _ hp⟩
    | tuple xs =>
      obtain ⟨p, vs, rfl, hx, z, e⟩ := x.tup
      exact ⟨_, .inr (.inl ⟨vs, hx, rfl⟩), by rw [isEmpty_len (RepFs.length e)]; exact q1 _ hp⟩
    | dict es => exact hp.elim
end
/-! ### freezing a temporary -/
def wFz (w : WE) : WE := fun env Q => w env fun _ d env' => Q 0 d env'
section
variable {K : Frag} {G H : Hp} {L : Addr → Prop} {σ : L2.St} {env : En} {f : Fps}
def fzG (G H : Hp) (fv : List Addr) : Hp := fun p => if p ∈ fv then H p else G p
theorem fzG_le {fv : List Addr} (h : ∀ p ∈ fv, G p = none) : Le G (fzG G H fv) := fun p o e => by
  unfold fzG
  rw [if_neg fun hm => by rw [h p hm] at e; cases e]
  exact e
theorem fzG_at {fv : List Addr} : ∀ p ∈ fv, ∀ o, H p = some o → fzG G H fv p = some o := fun p hp o e => by
  unfold fzG
  rw [if_pos hp]
  exact e
theorem fzG_inv {fv : List Addr} {p : Addr} {o : HO} (h : fzG G H fv p = some o) : G p = some o ∨ (p ∈ fv ∧ H p = some o) := by
  unfold fzG at h
  by_cases hp : p ∈ fv
  · rw [if_pos hp] at h; exact .inr ⟨hp, h⟩
  · rw [if_neg hp] at h; exact .inl h
theorem SlotR.gmono {G' : Hp} (hg : Le G G') {m : Md} {v : V} {d : D} {fp : List Addr} (r : SlotR K G H L m v d fp) : SlotR K G' H L m v d fp := by
  cases m with
  | own n => exact RepO.mono (Tups.refl _) hg r (fun p _ o e => e) fun p _ o e => e
  | lok n =>
    obtain ⟨e, fq, r, l⟩ := r
    exact ⟨e, fq, RepO.mono (Tups.refl _) hg r (fun p _ o e => e) (fun p _ o e => e), l⟩
/-- what is held beside is frozen -/
theorem Post.fz {G1 H1 : Hp} {env1 : En} {f1 : Fps} {fv : List Addr} {F : Addr → Prop} (a : Post K G H L σ F G1 H1 env1 f1 fv) : Post K G H L σ F (fzG G1 H1 fv) H1 env1 f1 [] := by
  have hle := fzG_le (G := G1) (H := H1) a.gf
  refine ⟨⟨a.stp.keep, a.stp.dom, a.stp.gm.trans hle, fun p o e => ?_⟩, ?_, List.nodup_nil, fun _ h => absurd h (by simp), fun _ h => absurd h (by simp), fun _ h => absurd h (by simp), fun p hp => ?_, fun _ h => absurd h (by simp)⟩
  · rcases fzG_inv e with e | ⟨hp, e⟩
    · exact a.stp.gn p o e
    · exact .inr (a.dom p (.inr hp))
  · have s := a.sr
    refine ⟨s.len, fun i m d e => let ⟨v, e1, r⟩ := s.slot i m d e; ⟨v, e1, r.gmono hle⟩, s.own, s.nd, s.dj, fun p o e => ?_, fun i p hp => ?_, s.lk, s.lf⟩
    · rcases fzG_inv e with e | ⟨_, e⟩
      · exact s.gh p o e
      · exact .inl e
    · cases q : fzG G1 H1 fv p with
      | none => rfl
      | some o =>
        rcases fzG_inv q with q | ⟨hm, _⟩
        · rw [s.gf i p hp] at q; cases q
        · exact absurd ⟨i, hp⟩ (a.dj p hm)
  · rcases hp with h | h
    · exact a.dom p (.inl h)
    · simp at h
theorem RepO.fz {G1 H1 : Hp} {env1 : En} {f1 : Fps} {fv : List Addr} {F : Addr → Prop} (a : Post K G H L σ F G1 H1 env1 f1 fv) {n : Nat} {v : V} {d : D} (r : RepO K G1 H1 (At H1) n v d fv) : RepF K (fzG G1 H1 fv) H1 v d :=
  r.freeze (fzG_le a.gf) fzG_at
theorem snd_fz {X : Cx} {e : Expr} {w : WE} (h : PE X e (rdE X.K w)) : PE X e (rdE X.K (wFz w)) := pe_imp h fun σ H Q ⟨G, L, env, f, P, s, h, q⟩ =>
  ⟨G, L, env, f, _, s, h, fun n d e1 hp v G1 H1 f1 fv p1 r1 => q 0 d e1 hp v _ H1 f1 [] p1.fz (.frz (RepO.fz p1 r1))⟩
end
/-! ### displays -/
/-- all of depth k, or leaves of depth 0 -/
def tmpsK (k : Nat) : List Opd → Option (List D)
  | [] => some []
  | .tmp n d :: os => if n = k ∨ (n = 0 ∧ isLeaf d = true) then (tmpsK k os).map (d :: ·) else none
  | .sl _ :: _ => none
def wTup (wa : WA) : WE := fun env Q => wa env fun os e1 => ∃ ds, tmpsK 0 os = some ds ∧ ds.length ≤ sizeLine ∧ Q 0 (.tuple ds) e1
def wLst (k : Nat) (wa : WA) : WE := fun env Q => wa env fun os e1 => ∃ ds, tmpsK k os = some ds ∧ ds.length ≤ sizeLine ∧ Q (k + 1) (.list ds) e1
theorem tmpsK_rep {K : Frag} {G H : Hp} {σ : L2.St} {k : Nat} : ∀ {os : List Opd} {vs : List V} {fv : List Addr} {ds : List D}, OpdsR K G H σ os vs fv → tmpsK k os = some ds → ROs K G H (At H) k vs ds fv
  | _, _, _, _, .nil, e => by cases e; exact .nil
  | .tmp n d :: os, _, _, _, .cons r rs, e => by
    unfold tmpsK at e
    split at e
    · rename_i hn
      simp only [Option.map_eq_some_iff] at e
      obtain ⟨ds', e, rfl⟩ := e
      refine .cons ?_ (tmpsK_rep rs e)
      rcases hn with rfl | ⟨rfl, hl⟩
      · exact r
      · have q : RepO K G H (At H) 0 _ d _ := r
        obtain ⟨r0, e0⟩ := RepO.plain q
        rw [e0]
        cases k with
        | zero => exact .frz r0
        | succ k => exact .leaf hl r0
    · cases e
  | .sl _ :: _, _, _, _, _, e => by cases e
section
variable {X : Cx} {e : Expr} {es : List Expr} {pos : Pos}
theorem snd_tup {k : Nat} {wa : WA} (h : PA X es (rdA X.K wa)) : PE X (.Tuple es k pos) (rdE X.K (wTup wa)) := pe_imp (pe_tup h) fun σ H Q ⟨G, L, env, f, P, s, h, q⟩ => by
  refine ⟨G, L, env, f, _, s, h, ?_⟩
  rintro os e1 ⟨ds, ht, hz, hp⟩ vs G1 H1 f1 fv p1 r1
  obtain ⟨r, rfl⟩ := ROs.plain (tmpsK_rep r1 ht)
  have hl := RepFs.length r
  refine ⟨by omega, fun p hn => ?_⟩
  obtain ⟨fv2, p2, r2⟩ := (Res.newT hn (by omega) r).post p1.sr
  exact q 0 _ e1 hp _ G1 _ f1 fv2 (p1.seq p2) r2
theorem Res.newLK {K : Frag} {G H : Hp} {k : Nat} {p : Addr} {vs : List V} {ds : List D} {fv : List Addr} {L : Addr → Prop} {σ : L2.St} {env : En} {f : Fps} {G0 H0 : Hp} {F : Addr → Prop} (a : Post K G0 H0 L σ F G H env f fv) (h : H p = none) (z : vs.length ≤ sizeLine) (r : ROs K G H (At H) k vs ds fv) :
    Post K G0 H0 L σ F G (upd H p (.lst vs)) env f (p :: fv) ∧ RepO K G (upd H p (.lst vs)) (At (upd H p (.lst vs))) (k + 1) (.ref p) (.list ds) (p :: fv) := by
  have hle := le_upd (o := .lst vs) h
  have nm : p ∉ fv := fun hm => by
    obtain ⟨o, e⟩ := a.al p hm
    rw [h] at e; cases e
  have b : Post K G H L σ (Owns f) G (upd H p (.lst vs)) env f [p] := Post.of_le a.sr hle (by simp) (fun q hq => by simp at hq; subst hq; exact h) fun q hq => by simp at hq; subst hq; exact ⟨_, upd_same⟩
  refine ⟨(a.seq b).drop (fun q hq => ?_) (List.nodup_cons.mpr ⟨nm, a.nd⟩), .lst upd_same z (ROs.mono (Tups.of_le hle) (Le.refl _) r (fun q _ o e => hle q o e) fun q _ o e => hle q o e)⟩
  rcases List.mem_cons.mp hq with e | e
  · subst e; simp
  · simp [e]
theorem snd_lst {k : Nat} {wa : WA} (h : PA X es (rdA X.K wa)) : PE X (.List es pos) (rdE X.K (wLst k wa)) := pe_imp (pe_lst h) fun σ H Q ⟨G, L, env, f, P, s, h, q⟩ => by
  refine ⟨G, L, env, f, _, s, h, ?_⟩
  rintro os e1 ⟨ds, ht, hz, hp⟩ vs G1 H1 f1 fv p1 r1
  have r := tmpsK_rep r1 ht
  have hl := ROs.length r
  refine ⟨by omega, fun p hn => ?_⟩
  obtain ⟨p2, r2⟩ := Res.newLK p1 hn (by omega) r
  exact q _ _ e1 hp _ G1 _ f1 _ p2 r2
/-- *e in a display: its items -/
def starD : Nat → D → (List D → Prop) → Prop
  | _, .tuple ds, Q => Q ds
  | n, .list ds, Q => n ≤ 1 ∧ Q ds
  | _, _, _ => False
def wStar (o : WO) (b : WA) : WA := fun env Q => o env fun od e1 => fetch e1 od fun n d => starD n d fun ds => b e1 fun os e2 => Q (ds.map (Opd.tmp 0) ++ os) e2
theorem OpdsR.plain {K : Frag} {G H : Hp} {σ : L2.St} : ∀ {vs : List V} {ds : List D} {os : List Opd} {ws : List V} {fv : List Addr}, RepFs K G H vs ds → OpdsR K G H σ os ws fv → OpdsR K G H σ (ds.map (Opd.tmp 0) ++ os) (vs ++ ws) fv
  | _, _, _, _, _, .nil, r => r
  | _, _, _, _, _, .cons h t, r => by
    have q := OpdsR.cons (o := .tmp 0 _) (f1 := []) (RepO.frz h) (OpdsR.plain t r)
    exact q
theorem RepFs.step {K : Frag} {G1 H1 G2 H2 : Hp} {L : Addr → Prop} {σ σ' : L2.St} {env1 env2 : En} {f1 f2 : Fps} {fv2 : List Addr} (s : SR K G1 H1 L σ env1 f1) (b : Post K G1 H1 L σ' (Owns f1) G2 H2 env2 f2 fv2) {vs : List V} {ds : List D} (r : RepFs K G1 H1 vs ds) : RepFs K G2 H2 vs ds :=
  r.mono (b.stp.tups s.fm) b.stp.gm
theorem snd_star {p : Pos} {wo : WO} {wb : WA} (ha : PE X e (rdO X.K wo)) (hb : PA X es (rdA X.K wb)) : PA X (.Starred e p :: es) (rdA X.K (wStar wo wb)) := pa_imp (StX.pa_star ha hb) fun σ H Q ⟨G, L, env, f, P, s, h, q⟩ => by
  refine ⟨G, L, env, f, _, s, h, fun o e1 hp v G1 H1 f1 fv p1 r1 => ?_⟩
  obtain ⟨n, d, x, hp⟩ := fetch_x p1.sr r1 hp
  have go : ∀ {vs : List V} {ds : List D}, RepFs X.K G1 H1 vs ds → (wb e1 fun os e2 => P (ds.map (Opd.tmp 0) ++ os) e2) → rdA X.K wb σ H1 fun ys H2 => Q (vs ++ ys) H2 := fun {vs ds} rs hb =>
    ⟨G1, L, e1, f1, _, p1.sr, hb, fun os e2 hp2 ws G2 H2 f2 fv2 p2 r2 => q _ e2 hp2 _ G2 H2 f2 fv2 (p1.drop0.seq p2) (OpdsR.plain (rs.step p1.sr p2) r2)⟩
  cases d with
  | tuple ds =>
    obtain ⟨p, vs, rfl, hx, z, rs⟩ := x.tup
    exact ⟨p, vs, rfl, .inl hx, go rs hp⟩
  | list ds =>
    obtain ⟨p, vs, rfl, hx, z, rs⟩ := x.lst p1.sr.gh hp.1
    exact ⟨p, vs, rfl, .inr hx, go rs hp.2⟩
  | none => exact hp.elim
  | bool b => exact hp.elim
  | int i => exact hp.elim
  | str y => exact hp.elim
  | dict es => exact hp.elim
/-! ### items and slices -/
def oIx : OW
  | [(n, .list xs), (_, .int i)], Q => n ≤ 1 ∧ ∃ d, atI xs i = some d ∧ Q 0 d
  | [(_, .tuple xs), (_, .int i)], Q => ∃ d, atI xs i = some d ∧ Q 0 d
  | [(_, .str z), (_, .int i)], Q => z.length ≤ sizeLine ∧ ∃ c, atI z.cps.toList i = some c ∧ Q 0 (.str ⟨#[c]⟩)
  | _, _ => False
theorem RepFs.at {K : Frag} {G H : Hp} {vs : List V} {ds : List D} {i : Int} {d : D} (r : RepFs K G H vs ds) (h : atI ds i = some d) : ∃ v, atI vs i = some v ∧ RepF K G H v d := by
  unfold atI at h ⊢
  rw [RepFs.length r]
  cases e : ixN ds.length i with
  | none => rw [e] at h; cases h
  | some j =>
    rw [e] at h
    exact r.get h
theorem snd_ix {a b : Expr} {wa wb : WO} (ha : PE X a (rdO X.K wa)) (hb : PE X b (rdO X.K wb)) (hs : PlainIx b) : PE X (.Subscript a b pos) (rdE X.K (wOp oIx (wCons wa (wCons wb wNil)))) := by
  refine pe_imp (pe_ix ix_seq ha hb hs) fun σ H Q h => op2 (r := rIx X.K) (fun G H n m d e v u P Q g x y h q => ?_) h
  unfold oIx at h
  split at h
  · rename_i heq; cases heq
    obtain ⟨p, vs, rfl, hx, z, rs⟩ := x.lst g h.1
    obtain ⟨_, d, e, h⟩ := h
    obtain ⟨v, e1, r1⟩ := rs.at e
    exact .inl ⟨p, vs, _, v, rfl, y.int, hx, e1, q _ _ _ _ h (.same r1)⟩
  · rename_i heq; cases heq
    obtain ⟨p, vs, rfl, hx, z, rs⟩ := x.tup
    obtain ⟨d, e, h⟩ := h
    obtain ⟨v, e1, r1⟩ := rs.at e
    exact .inr (.inl ⟨p, vs, _, v, rfl, y.int, hx, e1, q _ _ _ _ h (.same r1)⟩)
  · rename_i heq; cases heq
    obtain ⟨hz, c, e, h⟩ := h
    exact .inr (.inr ⟨_, _, c, x.str, y.int, hz, e, q _ _ _ _ h (.str _)⟩)
  · exact h.elim
def cut {α : Type} (xs : List α) (lo hi : Option Int) : List α := (xs.drop (HT.sIx xs.length 0 lo)).take (HT.sIx xs.length xs.length hi - HT.sIx xs.length 0 lo)
abbrev WP := En → (Option Int → En → Prop) → Prop
def wP0 : WP := fun env Q => Q none env
def wP1 (w : WE) : WP := fun env Q => w env fun _ d e1 => ∃ i, d = .int i ∧ Q (some i) e1
def oCut (lo hi : Option Int) : Nat → D → (Nat → D → Prop) → Prop
  | n, .list xs, Q => n ≤ 1 ∧ Q 1 (.list (cut xs lo hi))
  | _, .tuple xs, Q => Q 0 (.tuple (cut xs lo hi))
  | _, .str z, Q => z.length ≤ sizeLine ∧ Q 0 (.str (cutS z lo hi))
  | _, _, _ => False
def wCut (o : WO) (lo hi : WP) : WE := fun env Q => o env fun od e1 => lo e1 fun l e2 => hi e2 fun h e3 => fetch e3 od fun n d => oCut l h n d fun k z => Q k z e3
def rdP (K : Frag) (w : WP) : TO := fun σ H Q => ∃ (G : Hp) (L : Addr → Prop) (env : En) (f : Fps) (P : Option Int → En → Prop), SR K G H L σ env f ∧ w env P ∧
  ∀ b env', P b env' → ∀ G' H' f', Post K G H L σ (Owns f) G' H' env' f' [] → Q b H'
theorem po_imp {o : Option Expr} {t t' : TO} (h : PO X o t) (k : ∀ σ H Q, t' σ H Q → t σ H Q) : PO X o t' := ⟨fun pins s σ H Q I q => h.run pins s σ H Q I (k σ H Q q)⟩
theorem snd_p0 : PO X none (rdP X.K wP0) := po_imp po_none fun σ H Q ⟨G, L, env, f, P, s, h, q⟩ => q none env h G H f (.refl s)
theorem snd_p1 {w : WE} (h : PE X e (rdE X.K w)) : PO X (some e) (rdP X.K (wP1 w)) := po_imp (po_some h) fun σ H Q ⟨G, L, env, f, P, s, h, q⟩ => by
  refine ⟨G, L, env, f, _, s, h, ?_⟩
  rintro n d e1 ⟨i, rfl, hp⟩ v G1 H1 f1 fv p1 r1
  exact ⟨i, (RepO.x r1).int, q _ e1 hp G1 H1 f1 p1.drop0⟩
theorem RepFs.cut {K : Frag} {G H : Hp} {vs : List V} {ds : List D} (r : RepFs K G H vs ds) (lo hi : Option Int) : RepFs K G H (cutV vs lo hi) (Sq.cut ds lo hi) := by
  unfold cutV Sq.cut
  rw [RepFs.length r]
  exact (r.drop _).take _
theorem snd_cut {lo hi : Option Expr} {p2 : Pos} {wo : WO} {wl wh : WP} (he : PE X e (rdO X.K wo)) (hl : PO X lo (rdP X.K wl)) (hh : PO X hi (rdP X.K wh)) : PE X (.Subscript e (.Slice lo hi none p2) pos) (rdE X.K (wCut wo wl wh)) :=
  pe_imp (pe_slice (SlR.or sl_list (SlR.or sl_tupA sl_str)) he hl hh) fun σ H Q ⟨G, L, env, f, P, s, h, q⟩ => by
    refine ⟨G, L, env, f, _, s, h, fun o e1 h1 v G1 H1 f1 fv p1 r1 => ?_⟩
    refine ⟨G1, L, e1, f1, _, p1.sr, h1, fun l e2 h2 G2 H2 f2 p2 => ?_⟩
    refine ⟨G2, L, e2, f2, _, p2.sr, h2, fun u e3 h3 G3 H3 f3 p3 => ?_⟩
    have p23 := p2.seq p3
    obtain ⟨n, d, x, hp⟩ := fetch_x p3.sr (OpdR.step p1 p23 r1) h3
    have pp := (p1.seq p23).drop0
    have fin : ∀ {k z v' H'}, P k z e3 → Res X.K G3 H3 k z v' H' → Q v' H' := fun {k z v' H'} hq res => by
      obtain ⟨fv6, p6, r6⟩ := res.post p3.sr
      exact q k z e3 hq v' G3 H' f3 fv6 (pp.seq p6) r6
    cases d with
    | list xs =>
      obtain ⟨p, vs, rfl, hx, z, rs⟩ := x.lst p3.sr.gh hp.1
      exact .inl ⟨p, vs, rfl, hx, fun b hb => fin hp.2 (.newL hb (Nat.le_trans (cutV_length _ _ _) z) (rs.cut l u))⟩
    | tuple xs =>
      obtain ⟨p, vs, rfl, hx, z, rs⟩ := x.tup
      refine .inr (.inl ⟨p, vs, rfl, hx, fun e => ?_, fun _ b hb => fin hp (.newT hb (Nat.le_trans (cutV_length _ _ _) z) (rs.cut l u))⟩)
      have e2 : cut xs l u = xs := by
        unfold cut
        rw [← RepFs.length rs, e.1, e.2, RepFs.length rs]
        simp
      rw [oCut, e2] at hp
      exact fin hp (.same (.tup hx z rs))
    | str z =>
      cases x.str
      exact .inr (.inr ⟨z, rfl, hp.1, fin hp.2 (.str _)⟩)
    | none => exact hp.elim
    | bool b => exact hp.elim
    | int i => exact hp.elim
    | dict es => exact hp.elim
/-- xs[::-1], xs a list -/
def oRev : OW
  | [(n, .list xs)], Q => n ≤ 1 ∧ Q 1 (.list xs.reverse)
  | _, _ => False
theorem snd_rev {k : Nat} {p1 p2 p3 : Pos} {wa : WO} (h : PE X e (rdO X.K wa)) : PE X (.Subscript e (.Slice none none (some (.UnaryOp .USub (.Constant (.int 1) k p1) p2)) p3) pos) (rdE X.K (wOp oRev (wCons wa wNil))) :=
  pe_imp (pe_revL h) fun σ H Q ⟨G, L, env, f, P, s, h, q⟩ => by
    refine ⟨G, L, env, f, _, s, h, fun o e1 hp v G1 H1 f1 fv p1 r1 => ?_⟩
    obtain ⟨n, d, x, hp⟩ := fetch_x p1.sr r1 hp
    have hp : oRev [(n, d)] (fun n d => P n d e1) := hp
    unfold oRev at hp
    split at hp
    · rename_i heq; cases heq
      obtain ⟨p, vs, rfl, hx, z, rs⟩ := x.lst p1.sr.gh hp.1
      refine ⟨p, vs, rfl, hx, fun b hb => ?_⟩
      obtain ⟨fv6, p6, r6⟩ := (Res.newL hb (by rw [List.length_reverse]; exact z) rs.reverse).post p1.sr
      exact q _ _ e1 hp.2 _ G1 _ f1 fv6 (p1.drop0.seq p6) r6
    · exact hp.elim
end
end Sq
/-! Sq5: statements, targets, loops -/
namespace Sq
open PySem PySem.Spec PyProof.Rows L2
structure K4 where
  nx : En → Prop
  rt : QE
  bk : En → Prop
  ct : En → Prop
  ex : Str → D → En → Prop := fun _ _ _ => False
abbrev WS := En → K4 → Prop
def Kp (A : Nat → Prop) (σ σ' : L2.St) : Prop := σ'.length = σ.length ∧ ∀ i, ¬ A i → σ'[i]? = σ[i]?
theorem Kp.refl {A : Nat → Prop} (σ : L2.St) : Kp A σ σ := ⟨rfl, fun _ _ => rfl⟩
theorem Kp.trans {A : Nat → Prop} {a b c : L2.St} (h : Kp A a b) (k : Kp A b c) : Kp A a c := ⟨k.1.trans h.1, fun i n => (k.2 i n).trans (h.2 i n)⟩
theorem Kp.set {A : Nat → Prop} (σ : L2.St) {i : Nat} (v : Option V) (h : A i) : Kp A σ (σ.set i v) :=
  ⟨List.length_set, fun j n => List.getElem?_set_ne fun e => n (by rw [← e]; exact h)⟩
theorem Kp.mono {A B : Nat → Prop} {σ σ' : L2.St} (h : Kp A σ σ') (k : ∀ i, A i → B i) : Kp B σ σ' := ⟨h.1, fun i n => h.2 i fun z => n (k i z)⟩
/-- the part that an own exception of the program bears -/
def partOf (c : Str) : Str := if c = "BadTree" then "path" else if c = "UnknownName" then "name" else if c = "BadText" then "place" else if c = "NotServed" then "tick" else if c = "BadAct" ∨ c = "BadAsk" then "word" else ""
/-- an exception in the air: its class's name, its part -/
def ExcD (K : Frag) (G H : Hp) (c : Str) (z : D) (dd : Option Addr) : Prop := (partOf c = "" ∧ dd = none) ∨ (partOf c ≠ "" ∧ ∃ (a : Addr) (fs : List (Str × V)) (v : V), dd = some a ∧ H a = some (.xd fs) ∧ fs.lookup (partOf c) = some v ∧ RepF K G H v z)
/-- which slots may be stored into; what is wished of exceptions -/
structure AS where
  a : Nat → Prop
  mg : Str → Option Value
  W : WX
instance : Coe (Nat → Prop) AS := ⟨fun a => ⟨a, fun _ => none, fun _ _ _ _ => True⟩⟩
def rdS (K : Frag) (S : AS) (w : WS) : TS := fun De σ H => ∃ (G : Hp) (L : Addr → Prop) (env : En) (f : Fps) (P : K4), SR K G H L σ env f ∧ w env P ∧
  (∀ e, P.nx e → ∀ σ' G' H' f', Post K G H L σ' (Owns f) G' H' e f' [] → Kp S.a σ σ' → De.nx σ' H') ∧
  (∀ e, P.bk e → ∀ σ' G' H' f', Post K G H L σ' (Owns f) G' H' e f' [] → Kp S.a σ σ' → De.bk σ' H') ∧
  (∀ e, P.ct e → ∀ σ' G' H' f', Post K G H L σ' (Owns f) G' H' e f' [] → Kp S.a σ σ' → De.ct σ' H') ∧
  (∀ n d e, P.rt n d e → ∀ v σ' G' H' f' fv, Post K G H L σ' (Owns f) G' H' e f' fv → RepO K G' H' (At H') n v d fv → Kp S.a σ σ' → De.rt v H') ∧
  (∀ c z e, P.ex c z e → ∀ σ' G' H' f' C dd, Post K G H L σ' (Owns f) G' H' e f' [] → S.mg c = some (.ref C) → ExcD K G' H' c z dd → Kp S.a σ σ' → S.W (.ref C) dd σ' H')
theorem ps_imp {X : Cx} {st : Stmt} {t t' : TS} (h : PS X st t) (k : ∀ D σ H, t' D σ H → t D σ H) : PS X st t' := ⟨fun pins s σ H D I q => h.run pins s σ H D I (k D σ H q)⟩
theorem pss_imp {X : Cx} {st : List Stmt} {t t' : TS} (h : PSs X st t) (k : ∀ D σ H, t' D σ H → t D σ H) : PSs X st t' := ⟨fun pins s σ H D I q => h.run pins s σ H D I (k D σ H q)⟩
theorem pg_imp {X : Cx} {st : Expr} {t t' : TG} (h : PG X st t) (k : ∀ v σ H Q, t' v σ H Q → t v σ H Q) : PG X st t' := ⟨fun pins s σ H v u Q I r q => h.run pins s σ H v u Q I r (k v σ H Q q)⟩
theorem pgs_imp {X : Cx} {st : List Expr} {t t' : TGs} (h : PGs X st t) (k : ∀ v σ H Q, t' v σ H Q → t v σ H Q) : PGs X st t' := ⟨fun pins s σ H v u Q I r q => h.run pins s σ H v u Q I r (k v σ H Q q)⟩
section
variable {X : Cx} {A : Nat → Prop} {S : AS} {st : Stmt} {rest : List Stmt} {e : Expr} {pos : Pos}
def wNext : WS := fun env P => P.nx env
def wBrk : WS := fun env P => P.bk env
def wCnt : WS := fun env P => P.ct env
def wNever : WS := fun _ _ => False
def wSeq (a b : WS) : WS := fun env P => a env { P with nx := fun e => b e P }
theorem rdS_nx {De : Ends} {σ : L2.St} {H : Hp} (h : rdS X.K S wNext De σ H) : De.nx σ H := by
  obtain ⟨G, L, env, f, P, s, h, hn, _⟩ := h
  exact hn env h σ G H f (.refl s) (.refl σ)
theorem snd_snil : PSs X [] (rdS X.K S wNext) := pss_imp pss_nil fun De σ H h => rdS_nx h
theorem snd_brk : PS X (.Break pos) (rdS X.K S wBrk) := ps_imp ps_break fun De σ H ⟨G, L, env, f, P, s, h, _, hb, _⟩ => hb env h σ G H f (.refl s) (.refl σ)
/-- goes on where a statement stands -/
theorem rdS_go {K : Frag} {b : WS} {De : Ends} {σ σ' : L2.St} {G H G' H' : Hp} {L : Addr → Prop} {env : En} {f f' : Fps} {P : K4} (p : Post K G H L σ' (Owns f) G' H' env f' []) (k : Kp S.a σ σ') (h : b env P)
    (hn : ∀ e, P.nx e → ∀ σ' G' H' f', Post K G H L σ' (Owns f) G' H' e f' [] → Kp S.a σ σ' → De.nx σ' H')
    (hb : ∀ e, P.bk e → ∀ σ' G' H' f', Post K G H L σ' (Owns f) G' H' e f' [] → Kp S.a σ σ' → De.bk σ' H')
    (hc : ∀ e, P.ct e → ∀ σ' G' H' f', Post K G H L σ' (Owns f) G' H' e f' [] → Kp S.a σ σ' → De.ct σ' H')
    (hr : ∀ n d e, P.rt n d e → ∀ v σ' G' H' f' fv, Post K G H L σ' (Owns f) G' H' e f' fv → RepO K G' H' (At H') n v d fv → Kp S.a σ σ' → De.rt v H')
    (hx : ∀ c z e, P.ex c z e → ∀ σ' G' H' f' C dd, Post K G H L σ' (Owns f) G' H' e f' [] → S.mg c = some (.ref C) → ExcD K G' H' c z dd → Kp S.a σ σ' → S.W (.ref C) dd σ' H') : rdS K S b De σ' H' :=
  ⟨G', L, env, f', P, p.sr, h, fun e q σ2 G2 H2 f2 p2 k2 => hn e q σ2 G2 H2 f2 (p.seq p2) (k.trans k2), fun e q σ2 G2 H2 f2 p2 k2 => hb e q σ2 G2 H2 f2 (p.seq p2) (k.trans k2),
    fun e q σ2 G2 H2 f2 p2 k2 => hc e q σ2 G2 H2 f2 (p.seq p2) (k.trans k2), fun n d e q v σ2 G2 H2 f2 fv p2 r k2 => hr n d e q v σ2 G2 H2 f2 fv (p.seq p2) r (k.trans k2), fun c z e q σ2 G2 H2 f2 C dd p2 m x k2 => hx c z e q σ2 G2 H2 f2 C dd (p.seq p2) m x (k.trans k2)⟩
theorem snd_seq {a b : WS} (h : PS X st (rdS X.K S a)) (k : PSs X rest (rdS X.K S b)) : PSs X (st :: rest) (rdS X.K S (wSeq a b)) := pss_imp (pss_cons h k) fun De σ H ⟨G, L, env, f, P, s, h, hn, hb, hc, hr, hx⟩ =>
  ⟨G, L, env, f, _, s, h, fun e q σ' G' H' f' p k => rdS_go p k q hn hb hc hr hx, hb, hc, hr, hx⟩
/-! ### targets -/
abbrev WG := Nat → D → En → (En → Prop) → Prop
abbrev WGs := List D → En → (En → Prop) → Prop
def rdG (K : Frag) (A : Nat → Prop) (g : WG) : TG := fun v σ H Q => ∃ (G : Hp) (L : Addr → Prop) (env : En) (f : Fps) (n : Nat) (d : D) (fv : List Addr) (P : En → Prop), Post K G H L σ (OwnsW f fv) G H env f fv ∧
  RepO K G H (At H) n v d fv ∧ g n d env P ∧ ∀ e, P e → ∀ σ' G' H' f', Post K G H L σ' (OwnsW f fv) G' H' e f' [] → Kp A σ σ' → Q σ' H'
def rdGs (K : Frag) (A : Nat → Prop) (g : WGs) : TGs := fun vs σ H Q => ∃ (G : Hp) (L : Addr → Prop) (env : En) (f : Fps) (ds : List D) (P : En → Prop), SR K G H L σ env f ∧
  RepFs K G H vs ds ∧ g ds env P ∧ ∀ e, P e → ∀ σ' G' H' f', Post K G H L σ' (Owns f) G' H' e f' [] → Kp A σ σ' → Q σ' H'
def wNm (i : Nat) : WG := fun n d e Q => Q (e.set i (some (.own n, d)))
def wGn : WGs := fun ds e Q => ds = [] ∧ Q e
def wGc (g : WG) (gs : WGs) : WGs := fun ds e Q => ∃ d r, ds = d :: r ∧ g 0 d e fun e1 => gs r e1 Q
def wTp (k : Nat) (gs : WGs) : WG := fun _ d e Q => ∃ ds, d = .tuple ds ∧ ds.length = k ∧ gs ds e Q
/-- what is held goes into a slot -/
theorem Post.put {K : Frag} {G0 H0 G H : Hp} {L : Addr → Prop} {σ : L2.St} {F : Addr → Prop} {f : Fps} {env : En} {fv : List Addr} {n i : Nat} {v : V} {d : D} (a : Post K G0 H0 L σ F G H env f fv) (r : RepO K G H (At H) n v d fv) (hi : i < env.length) :
    Post K G0 H0 L (σ.set i (some v)) F G H (env.set i (some (.own n, d))) (fun j => if j = i then fv else f j) [] := by
  have s := a.sr
  have mem : ∀ {p}, Owns (fun j => if j = i then fv else f j) p → Owns f p ∨ p ∈ fv := fun {p} ⟨j, h⟩ => by
    by_cases hj : j = i
    · simp only [if_pos hj] at h; exact .inr h
    · simp only [if_neg hj] at h; exact .inl ⟨j, h⟩
  refine ⟨⟨a.stp.keep, a.stp.dom, a.stp.gm, a.stp.gn⟩, ?_, List.nodup_nil, fun _ h => absurd h (by simp), fun _ h => absurd h (by simp), fun _ h => absurd h (by simp), fun p hp => ?_, fun _ h => absurd h (by simp)⟩
  · refine ⟨by rw [List.length_set, List.length_set]; exact s.len, fun j m d' e => ?_, fun j p h => ?_, fun j => ?_, fun j k p nk h h' => ?_, s.gh, fun j p h => ?_, s.lk, fun j p h l => ?_⟩
    · by_cases hj : j = i
      · subst hj
        rw [List.getElem?_set_self hi] at e
        cases e
        rw [if_pos rfl]
        exact ⟨v, List.getElem?_set_self (by rw [← s.len]; exact hi), r⟩
      · rw [List.getElem?_set_ne (Ne.symm hj)] at e
        rw [if_neg hj]
        obtain ⟨v', e', r'⟩ := s.slot j m d' e
        exact ⟨v', by rw [List.getElem?_set_ne (Ne.symm hj)]; exact e', r'⟩
    · by_cases hj : j = i
      · subst hj
        exact ⟨n, d, List.getElem?_set_self hi⟩
      · rw [if_neg hj] at h
        obtain ⟨n', d', e⟩ := s.own j p h
        exact ⟨n', d', by rw [List.getElem?_set_ne (Ne.symm hj)]; exact e⟩
    · by_cases hj : j = i
      · rw [if_pos hj]; exact a.nd
      · rw [if_neg hj]; exact s.nd j
    · by_cases hj : j = i
      · rw [if_pos hj] at h
        rw [if_neg (fun e => nk (hj.trans e.symm))] at h'
        exact a.dj p h ⟨k, h'⟩
      · rw [if_neg hj] at h
        by_cases hk : k = i
        · rw [if_pos hk] at h'
          exact a.dj p h' ⟨j, h⟩
        · rw [if_neg hk] at h'
          exact s.dj j k p nk h h'
    · by_cases hj : j = i
      · rw [if_pos hj] at h; exact a.gf p h
      · rw [if_neg hj] at h; exact s.gf j p h
    · by_cases hj : j = i
      · rw [if_pos hj] at h
        exact a.nl p h l
      · rw [if_neg hj] at h; exact s.lf j p h l
  · rcases hp with h | h
    · exact a.dom p (mem h)
    · simp at h
theorem Post.w0 {K : Frag} {G H G1 H1 : Hp} {L : Addr → Prop} {σ : L2.St} {env1 : En} {f f1 : Fps} {fv : List Addr} (a : Post K G H L σ (OwnsW f []) G1 H1 env1 f1 fv) : Post K G H L σ (Owns f) G1 H1 env1 f1 fv := by
  have e : OwnsW f [] = Owns f := by
    funext p
    exact propext ⟨fun h => h.elim id fun z => absurd z (by simp), .inl⟩
  rw [e] at a
  exact a
theorem Post.w1 {K : Frag} {G H G1 H1 : Hp} {L : Addr → Prop} {σ : L2.St} {env1 : En} {f f1 : Fps} {fv : List Addr} (a : Post K G H L σ (Owns f) G1 H1 env1 f1 fv) : Post K G H L σ (OwnsW f []) G1 H1 env1 f1 fv := by
  have e : OwnsW f [] = Owns f := by
    funext p
    exact propext ⟨fun h => h.elim id fun z => absurd z (by simp), .inl⟩
  rw [e]
  exact a
/-- a store into the i-th slot -/
def wNmG (i : Nat) : WG := fun n d e Q => i < e.length ∧ wNm i n d e Q
theorem snd_nm {i : Nat} {x : Str} (hN : X.N.Nodup) (hi : X.N[i]? = some x) (hx : Loc X.env.scope x) (hf : X.fn x = true ∨ X.env.scope.names.lookup x = some .local) (ha : A i) :
    PG X (.Name x pos) (rdG X.K A (wNmG i)) := pg_imp (pg_name hN hi hx hf) fun v σ H Q ⟨G, L, env, f, n, d, fv, P, p, r, ⟨hi, h⟩, q⟩ =>
  q _ h _ G H _ (p.put r hi) (.set σ _ ha)
theorem snd_gn : PGs X [] (rdGs X.K A wGn) := pgs_imp pgs_nil fun vs σ H Q ⟨G, L, env, f, ds, P, s, r, ⟨e, h⟩, q⟩ => by
  subst e
  cases r
  exact ⟨rfl, q _ h σ G H f (.refl s) (.refl σ)⟩
theorem snd_gc {es : List Expr} {g : WG} {gs : WGs} (h1 : PG X e (rdG X.K A g)) (h2 : PGs X es (rdGs X.K A gs)) (hs : (assignEach (e :: es) X.env).map (·.2) = assign e X.env :: (assignEach es X.env).map (·.2)) : PGs X (e :: es) (rdGs X.K A (wGc g gs)) :=
  pgs_imp (pgs_cons h1 h2 hs) fun vs σ H Q ⟨G, L, env, f, ds, P, s, r, ⟨d, ds', ed, h⟩, q⟩ => by
    subst ed
    cases r with
    | cons r rs =>
      refine ⟨_, _, rfl, G, L, env, f, 0, d, [], _, (Post.refl s).w1, .frz r, h, fun e1 h1 σ1 G1 H1 f1 p1 k1 => ?_⟩
      have p1 := p1.w0
      exact ⟨G1, L, e1, f1, ds', _, p1.sr, rs.step s p1, h1, fun e2 h2 σ2 G2 H2 f2 p2 k2 => q e2 h2 σ2 G2 H2 f2 (p1.seq p2) (k1.trans k2)⟩
theorem snd_tp {es : List Expr} {gs : WGs} {k j : Nat} (hc : X.calm = true) (h : PGs X es (rdGs X.K A gs)) (hn : (assignEach es X.env).length = k) (hst : (assignEach es X.env).findIdx? (·.1) = none) : PG X (.Tuple es j pos) (rdG X.K A (wTp k gs)) :=
  pg_imp (pg_tup hc h hn hst) fun v σ H Q ⟨G, L, env, f, n, d, fv, P, p, r, ⟨ds, ed, hl, h⟩, q⟩ => by
    subst ed
    obtain ⟨a, vs, rfl, ht, hz, rs⟩ := (RepO.x r).tup
    have e0 : fv = [] := by
      cases r with
      | frz _ => rfl
      | leaf _ _ => rfl
    subst e0
    exact ⟨a, vs, rfl, ht, by rw [RepFs.length rs]; exact hl, G, L, env, f, ds, _, p.sr, rs, h, fun e1 h1 σ1 G1 H1 f1 p1 k1 => q e1 h1 σ1 G1 H1 f1 p1.w1 k1⟩
/-! ### simple statements -/
def wAsg (w : WE) (g : WG) : WS := fun env P => w env fun n d e1 => g n d e1 P.nx
theorem asg_rd {w : WE} {g : WG} {De : Ends} {σ : L2.St} {H : Hp} (h : rdS X.K S (wAsg w g) De σ H) : rdE X.K w σ H fun x H1 => rdG X.K S.a g x σ H1 De.nx := by
  obtain ⟨G, L, env, f, P, s, h, hn, _⟩ := h
  exact ⟨G, L, env, f, _, s, h, fun n d e1 h1 v G1 H1 f1 fv p r => ⟨G1, L, e1, f1, n, d, fv, _, p.here, r, h1, fun e2 h2 σ2 G2 H2 f2 p2 k2 => hn e2 h2 σ2 G2 H2 f2 (p.seqW p2) k2⟩⟩
theorem snd_asg {tg : Expr} {w : WE} {g : WG} (he : PE X e (rdE X.K w)) (hg : PG X tg (rdG X.K S.a g)) (hs : swapsWithSole [tg] e pos.line X.env = pure false) (hw : swappedStores [tg] e X.env = pure none)
    (h1 : (assignEach [tg] X.env).map (·.2) = [assign tg X.env]) : PS X (.Assign [tg] e pos) (rdS X.K S (wAsg w g)) := ps_imp (ps_asg he hg hs hw h1) fun De σ H h => asg_rd h
theorem snd_set {i : Nat} {x : Str} {pos' : Pos} {w : WE} (hN : X.N.Nodup) (hi : X.N[i]? = some x) (hx : Loc X.env.scope x) (hf : X.fn x = true ∨ X.env.scope.names.lookup x = some .local) (ha : S.a i) (he : PE X e (rdE X.K w))
    (hs : swapsWith e (some (.Name x pos')) pos.line X.env = pure false) : PS X (.Assign [.Name x pos'] e pos) (rdS X.K S (wAsg w (wNmG i))) :=
  ps_imp (ps_set hN hi hx he hs hf) fun De σ H ⟨G, L, env, f, P, s, h, hn, _⟩ =>
    ⟨G, L, env, f, _, s, h, fun n d e1 ⟨hi, h1⟩ v G1 H1 f1 fv p r => hn _ h1 _ G1 H1 _ (p.put r hi) (.set σ _ ha)⟩
def wExpr (w : WE) : WS := fun env P => w env fun _ _ e1 => P.nx e1
theorem snd_expr {w : WE} (he : PE X e (rdE X.K w)) (hs : swapsWith e none pos.line X.env = pure false) : PS X (.Expr e pos) (rdS X.K S (wExpr w)) :=
  ps_imp (ps_expr he hs) fun De σ H ⟨G, L, env, f, P, s, h, hn, _⟩ => ⟨G, L, env, f, _, s, h, fun n d e1 h1 v G1 H1 f1 fv p r => hn _ h1 _ G1 H1 _ p.drop0 (.refl σ)⟩
def wRet (w : WE) : WS := fun env P => w env P.rt
theorem snd_ret {w : WE} (he : PE X e (rdE X.K w)) : PS X (.Return (some e) pos) (rdS X.K S (wRet w)) :=
  ps_imp (ps_ret he) fun De σ H ⟨G, L, env, f, P, s, h, _, _, _, hr, _⟩ => ⟨G, L, env, f, _, s, h, fun n d e1 h1 v G1 H1 f1 fv p r => hr n d _ h1 v _ G1 H1 _ fv p r (.refl σ)⟩
def wRetN : WS := fun env P => P.rt 0 .none env
def wIf (t : WT) (a b : WS) : WS := fun env P => t env fun c e1 => if c = true then a e1 P else b e1 P
theorem snd_if {c : Expr} {sa sb : List Stmt} {t : WT} {a b : WS} (hc : PT X c (rdT X.K t)) (ha : PSs X sa (rdS X.K S a)) (hb : PSs X sb (rdS X.K S b)) : PS X (.If c sa sb pos) (rdS X.K S (wIf t a b)) :=
  ps_imp (ps_if hc ha hb) fun De σ H ⟨G, L, env, f, P, s, h, hn, hb, hc, hr, hx⟩ => by
    refine ⟨G, L, env, f, _, s, h, fun c e1 hp G1 H1 f1 p1 => ?_⟩
    cases c with
    | true => exact iteT (rdS_go (P := P) p1 (.refl σ) (by simpa using hp) hn hb hc hr hx)
    | false => exact iteF (rdS_go (P := P) p1 (.refl σ) (by simpa using hp) hn hb hc hr hx)
/-! ### while -/
def whileW (t : WT) (b : WS) : Nat → En → K4 → Prop
  | 0, _, _ => False
  | k + 1, env, P => t env fun c e1 => if c = true then b e1 { P with nx := fun e2 => whileW t b k e2 P, ct := fun e2 => whileW t b k e2 P, bk := P.nx } else P.nx e1
def wWhile (t : WT) (b : WS) : WS := fun env P => ∃ k, whileW t b k env P
theorem snd_while {c : Expr} {body : List Stmt} {t : WT} {b : WS} (hp : PassesOwn (model X.prog X.w) X.A X.env X.xe) (hc : PT X c (rdT X.K t)) (hb : PSs X body (rdS X.K S b)) : PS X (.While c body [] pos) (rdS X.K S (wWhile t b)) :=
  ps_imp (ps_while hp hc hb) fun De σ H ⟨G, L, env, f, P, s, ⟨k0, h⟩, hn, hbk, hct, hr, hx⟩ => by
    refine ⟨fun k σ1 H1 => ∃ G1 env1 f1, Post X.K G H L σ1 (Owns f) G1 H1 env1 f1 [] ∧ Kp S.a σ σ1 ∧ whileW t b k env1 P, ⟨k0, G, env, f, .refl s, .refl σ, h⟩, ?_⟩
    rintro k σ1 H1 ⟨G1, env1, f1, p1, k1, h1⟩
    cases k with
    | zero => exact h1.elim
    | succ k =>
      refine ⟨G1, L, env1, f1, _, p1.sr, h1, fun c e2 h2 G2 H2 f2 p2 => ?_⟩
      have p12 := p1.seq p2
      cases c with
      | false => exact iteF (hn e2 (by simpa using h2) σ1 G2 H2 f2 p12 k1)
      | true =>
        refine iteT ⟨fun σ' H' => ∃ G1 env1 f1, Post X.K G H L σ' (Owns f) G1 H' env1 f1 [] ∧ Kp S.a σ σ' ∧ whileW t b k env1 P, fun σ' H' z => ⟨k, Nat.lt_succ_self k, z⟩, ?_⟩
        have h3 := (if_pos rfl).mp h2
        exact ⟨G2, L, e2, f2, _, p12.sr, h3, fun e q σ3 G3 H3 f3 p3 k3 => ⟨G3, e, f3, p12.seq p3, k1.trans k3, q⟩, fun e q σ3 G3 H3 f3 p3 k3 => hn e q σ3 G3 H3 f3 (p12.seq p3) (k1.trans k3),
          fun e q σ3 G3 H3 f3 p3 k3 => ⟨G3, e, f3, p12.seq p3, k1.trans k3, q⟩, fun n d e q v σ3 G3 H3 f3 fv p3 r k3 => hr n d e q v σ3 G3 H3 f3 fv (p12.seq p3) r (k1.trans k3), fun c z e q σ3 G3 H3 f3 C dd p3 m x k3 => hx c z e q σ3 G3 H3 f3 C dd (p12.seq p3) m x (k1.trans k3)⟩
end
end Sq
/-! Sq6: for, comprehensions -/
namespace Sq
open PySem PySem.Spec PyProof.Rows L2
/-- from (G, H) to (G2, H2) the tuples, what is frozen and the lists at fp stay -/
def Sty (G H : Hp) (fp : List Addr) (G2 H2 : Hp) : Prop := Tups H H2 ∧ Le G G2 ∧ GH G2 H2 ∧ ∀ p, (p ∈ fp ∨ ∃ o, G p = some o) → ∀ o, H p = some o → H2 p = some o
def ItemsOk (K : Frag) (G H : Hp) (fp : List Addr) (J : It) (ds : List D) : Prop := ds.length ≤ sizeLine ∧ ∃ Gd Yd, Walk J ds.length Gd Yd ∧ (∀ G2 H2, Sty G H fp G2 H2 → Gd H2) ∧
  ∀ i G2 H2 x H3, Sty G H fp G2 H2 → Yd i H2 x H3 → Le H2 H3 ∧ ∃ d, ds[i]? = some d ∧ RepF K G2 H3 x d
abbrev WI := En → (List D → En → Prop) → Prop
def rdI (K : Frag) (w : WI) : TI := fun σ H R => ∃ (G : Hp) (L : Addr → Prop) (env : En) (f : Fps) (P : List D → En → Prop), SR K G H L σ env f ∧ w env P ∧
  ∀ ds e, P ds e → ∀ J G' H' f' fv, Post K G H L σ (Owns f) G' H' e f' fv → ItemsOk K G' H' fv J ds → R J H'
theorem pi_imp {X : Cx} {tg e : Expr} {t t' : TI} (h : PI X tg e t) (k : ∀ σ H R, t' σ H R → t σ H R) : PI X tg e t' := ⟨fun pins s σ H R I q => h.run pins s σ H R I (k σ H R q)⟩
theorem Sty.of {K : Frag} {G0 H0 G1 H1 G2 H2 : Hp} {L : Addr → Prop} {σ σ' : L2.St} {F : Addr → Prop} {e1 e2 : En} {f1 f2 : Fps} {fv fv2 : List Addr} (a : Post K G0 H0 L σ F G1 H1 e1 f1 fv) (b : Post K G1 H1 L σ' (Owns f1) G2 H2 e2 f2 fv2) : Sty G1 H1 fv G2 H2 :=
  ⟨b.stp.tups a.sr.fm, b.stp.gm, b.sr.gh, fun p hp o e => b.stp.keep p o e fun z => hp.elim (fun h => a.dj p h z) fun ⟨o', h⟩ => by
    obtain ⟨i, hi⟩ := z
    rw [a.sr.gf i p hi] at h
    cases h⟩
def loopW (g : WG) (b : WS) : List D → En → K4 → Prop
  | [], e, P => P.nx e
  | d :: ds, e, P => g 0 d e fun e1 => b e1 { P with nx := fun e2 => loopW g b ds e2 P, ct := fun e2 => loopW g b ds e2 P, bk := P.nx }
def wFor (wi : WI) (g : WG) (b : WS) : WS := fun env P => wi env fun ds e1 => loopW g b ds e1 P
theorem drop_cons {α : Type} {ds : List α} {i : Nat} {d : α} (h : ds[i]? = some d) : ds.drop i = d :: ds.drop (i + 1) := by
  obtain ⟨hi, e⟩ := List.getElem?_eq_some_iff.mp h
  rw [List.drop_eq_getElem_cons hi, e]
/-- a state whose heap has grown -/
theorem Post.grow {K : Frag} {G H G1 H1 H2 : Hp} {L : Addr → Prop} {σ : L2.St} {F : Addr → Prop} {e1 : En} {f1 : Fps} {fv : List Addr} (a : Post K G H L σ F G1 H1 e1 f1 fv) (h : Le H1 H2) : Post K G H L σ F G1 H2 e1 f1 fv := by
  have b : Post K G1 H1 L σ (OwnsW f1 fv) G1 H2 e1 f1 fv := by
    refine ⟨⟨fun p o e _ => h p o e, fun p e => ?_, Le.refl _, fun _ _ e => .inl e⟩, a.sr.le h, a.nd, a.dj, a.gf, fun p hp => let ⟨o, e⟩ := a.al p hp; ⟨o, h p o e⟩, fun p h => .inl h, a.nl⟩
    cases q : H1 p with
    | none => rfl
    | some o => rw [h p o q] at e; cases e
  exact a.seqW b
section
variable {X : Cx} {A : Nat → Prop} {S : AS} {pos : Pos}
theorem snd_for {tg iter : Expr} {body : List Stmt} {wi : WI} {g : WG} {b : WS} (hp : PassesOwn (model X.prog X.w) X.A X.env X.xe) (hc : X.calm = true) (hi : PI X tg iter (rdI X.K wi)) (hg : PG X tg (rdG X.K S.a g)) (hb : PSs X body (rdS X.K S b))
    (hs : ∀ x, foldedSetIterable iter X.env x = pure x) : PS X (.For tg iter body [] pos) (rdS X.K S (wFor wi g b)) :=
  ps_imp (ps_for hp hc hi hg hb hs) fun De σ H ⟨G, L, env, f, P, s, h, hn, hbk, hct, hr, hx⟩ => by
    refine ⟨G, L, env, f, _, s, h, fun ds e1 h1 J G1 H1 f1 fv p1 ok => ?_⟩
    obtain ⟨hz, Gd, Yd, wk, hG, hY⟩ := ok
    refine for_it wk (fun i σ' H' => ∃ G2 e2 f2, Post X.K G1 H1 L σ' (Owns f1) G2 H' e2 f2 [] ∧ Kp S.a σ σ' ∧ loopW g b (ds.drop i) e2 P) ⟨G1, e1, f1, .refl p1.sr, .refl σ, h1⟩ ?_ ?_ ?_
    · rintro i σ' H' _ ⟨G2, e2, f2, p2, k2, h2⟩
      exact hG _ _ (Sty.of p1 p2)
    · rintro i x σ' H' H'' hi ⟨G2, e2, f2, p2, k2, h2⟩ y
      obtain ⟨le, d, ed, rd⟩ := hY i G2 H' x H'' (Sty.of p1 p2) y
      rw [drop_cons ed] at h2
      have p2' := p2.grow le
      have b2 : Post X.K G2 H'' L σ' (OwnsW f2 []) G2 H'' e2 f2 [] := (Post.refl p2'.sr).w1
      refine ⟨G2, L, e2, f2, 0, d, [], _, b2, .frz rd, h2, fun e3 h3 σ3 G3 H3 f3 p3 k3 => ?_⟩
      have p3 := p3.w0
      have p13 := p2'.seq p3
      have k13 := k2.trans k3
      exact ⟨G3, L, e3, f3, _, p3.sr, h3, fun e q σ4 G4 H4 f4 p4 k4 => ⟨G4, e, f4, p13.seq p4, k13.trans k4, q⟩,
        fun e q σ4 G4 H4 f4 p4 k4 => hn e q σ4 G4 H4 f4 (p1.drop0.seq (p13.seq p4)) (k13.trans k4),
        fun e q σ4 G4 H4 f4 p4 k4 => ⟨G4, e, f4, p13.seq p4, k13.trans k4, q⟩,
        fun n d e q v σ4 G4 H4 f4 fv4 p4 r k4 => hr n d e q v σ4 G4 H4 f4 fv4 (p1.drop0.seq (p13.seq p4)) r (k13.trans k4),
        fun c z e q σ4 G4 H4 f4 C dd p4 m x k4 => hx c z e q σ4 G4 H4 f4 C dd (p1.drop0.seq (p13.seq p4)) m x (k13.trans k4)⟩
    · rintro σ' H' ⟨G2, e2, f2, p2, k2, h2⟩
      rw [List.drop_length] at h2
      exact hn e2 h2 σ' G2 H' f2 (p1.drop0.seq p2) k2
end
/-! ### comprehensions -/
def wipeE : List Nat → En → En
  | [], e => e
  | v :: vs, e => (wipeE vs e).set v none
/-- e2 with the slots vs as they are in e1 -/
def restE : List Nat → En → En → En
  | [], _, e2 => e2
  | v :: vs, e1, e2 => (restE vs e1 e2).set v (e1[v]?.getD none)
theorem wipeE_len : ∀ (vs : List Nat) (e : En), (wipeE vs e).length = e.length
  | [], _ => rfl
  | v :: vs, e => by unfold wipeE; rw [List.length_set, wipeE_len]
theorem restE_len : ∀ (vs : List Nat) (e1 e2 : En), (restE vs e1 e2).length = e2.length
  | [], _, _ => rfl
  | v :: vs, e1, e2 => by unfold restE; rw [List.length_set, restE_len]
theorem wipeE_in : ∀ {vs : List Nat} {e : En} {i : Nat} {s : Md × D}, i ∈ vs → (wipeE vs e)[i]? ≠ some (some s)
  | v :: vs, e, i, s, h => by
    unfold wipeE
    by_cases hv : v = i
    · subst hv
      rw [List.getElem?_set_self']
      cases (wipeE vs e)[v]? <;> simp
    · rw [List.getElem?_set_ne hv]
      exact wipeE_in ((List.mem_cons.mp h).resolve_left fun z => hv z.symm)
theorem wipeE_out : ∀ {vs : List Nat} {e : En} {i : Nat}, i ∉ vs → (wipeE vs e)[i]? = e[i]?
  | [], _, _, _ => rfl
  | v :: vs, e, i, h => by
    unfold wipeE
    rw [List.getElem?_set_ne (fun z => h (by simp [z])), wipeE_out fun z => h (by simp [z])]
theorem wipe_out : ∀ {vs : List Nat} {σ : L2.St} {i : Nat}, i ∉ vs → (wipe σ vs)[i]? = σ[i]?
  | [], _, _, _ => rfl
  | v :: vs, e, i, h => by
    unfold wipe
    rw [List.getElem?_set_ne (fun z => h (by simp [z])), wipe_out fun z => h (by simp [z])]
theorem restE_in : ∀ {vs : List Nat} {e1 e2 : En} {i : Nat}, i ∈ vs → e1.length = e2.length → (restE vs e1 e2)[i]? = e1[i]?
  | v :: vs, e1, e2, i, h, hl => by
    unfold restE
    by_cases hv : v = i
    · subst hv
      by_cases hi : v < e2.length
      · rw [List.getElem?_set_self (by rw [restE_len]; exact hi)]
        rw [List.getElem?_eq_getElem (by omega)]
        rfl
      · rw [List.getElem?_eq_none (by rw [List.length_set, restE_len]; omega), List.getElem?_eq_none (by omega)]
    · rw [List.getElem?_set_ne hv]
      exact restE_in ((List.mem_cons.mp h).resolve_left fun z => hv z.symm) hl
theorem restE_out : ∀ {vs : List Nat} {e1 e2 : En} {i : Nat}, i ∉ vs → (restE vs e1 e2)[i]? = e2[i]?
  | [], _, _, _, _ => rfl
  | v :: vs, e1, e2, i, h => by
    unfold restE
    rw [List.getElem?_set_ne (fun z => h (by simp [z])), restE_out fun z => h (by simp [z])]
def hideF (vs : List Nat) (f : Fps) : Fps := fun j => if j ∈ vs then [] else f j
theorem hideF_mem {vs : List Nat} {f : Fps} {j : Nat} {p : Addr} (h : p ∈ hideF vs f j) : j ∉ vs ∧ p ∈ f j := by
  unfold hideF at h
  by_cases hj : j ∈ vs
  · rw [if_pos hj] at h; simp at h
  · rw [if_neg hj] at h; exact ⟨hj, h⟩
theorem hideF_out {vs : List Nat} {f : Fps} {j : Nat} (h : j ∉ vs) : hideF vs f j = f j := if_neg h
section
variable {K : Frag} {G H G1 H1 G2 H2 : Hp} {L : Addr → Prop} {σ σ' : L2.St} {e1 e2 : En} {f1 f2 : Fps} {fv : List Addr}
theorem SR.hide (s : SR K G H L σ e1 f1) (vs : List Nat) : SR K G H L (wipe σ vs) (wipeE vs e1) (hideF vs f1) := by
  have get : ∀ {i m d}, (wipeE vs e1)[i]? = some (some (m, d)) → i ∉ vs ∧ e1[i]? = some (some (m, d)) := fun {i m d} e => by
    have hi : i ∉ vs := fun hm => wipeE_in hm e
    exact ⟨hi, by rw [wipeE_out hi] at e; exact e⟩
  refine ⟨by rw [wipeE_len, wipe_length]; exact s.len, fun i m d e => ?_, fun i p h => ?_, fun i => ?_, fun i j p n h h' => s.dj i j p n (hideF_mem h).2 (hideF_mem h').2, s.gh, fun i p h => s.gf i p (hideF_mem h).2, s.lk, fun i p h => s.lf i p (hideF_mem h).2⟩
  · obtain ⟨hi, e⟩ := get e
    rw [wipe_out hi, hideF_out hi]
    exact s.slot i m d e
  · obtain ⟨hi, h⟩ := hideF_mem h
    obtain ⟨n, d, e⟩ := s.own i p h
    exact ⟨n, d, by rw [wipeE_out hi]; exact e⟩
  · by_cases hi : i ∈ vs
    · rw [hideF, if_pos hi]; exact List.nodup_nil
    · rw [hideF_out hi]; exact s.nd i
theorem Owns.hide {vs : List Nat} {p : Addr} (h : Owns (hideF vs f1) p) : Owns f1 p := let ⟨j, h⟩ := h; ⟨j, (hideF_mem h).2⟩
/-- behind a turn: the block's own slots forgotten -/
theorem Post.hide {F : Addr → Prop} (a : Post K G H L σ F G1 H1 e1 f1 fv) (vs : List Nat) (hw : wipe σ vs = σ') : Post K G H L σ' F G1 H1 (wipeE vs e1) (hideF vs f1) fv := by
  subst hw
  exact ⟨⟨a.stp.keep, a.stp.dom, a.stp.gm, a.stp.gn⟩, a.sr.hide vs, a.nd, fun p hp z => a.dj p hp z.hide, a.gf, a.al, fun p hp => a.dom p (hp.imp Owns.hide id), a.nl⟩
def restF (vs : List Nat) (f1 f2 : Fps) : Fps := fun j => if j ∈ vs then f1 j else f2 j
/-- the slots vs as they were -/
theorem Post.rest (s : SR K G1 H1 L σ e1 f1) (vs : List Nat) (a : Post K G1 H1 L (wipe σ vs) (Owns (hideF vs f1)) G2 H2 e2 f2 fv) : Post K G1 H1 L σ (Owns f1) G2 H2 (restE vs e1 e2) (restF vs f1 f2) fv := by
  have hl : e1.length = e2.length := by
    have := a.sr.len
    rw [wipe_length] at this
    rw [this]; exact s.len
  -- what the slots vs own is not touched
  have out : ∀ {i p}, i ∈ vs → p ∈ f1 i → ¬ Owns (hideF vs f1) p := fun {i p} hi hp z => by
    obtain ⟨j, hj⟩ := z
    obtain ⟨hn, hj⟩ := hideF_mem hj
    exact s.dj i j p (fun e => hn (e ▸ hi)) hp hj
  have there : ∀ {i p}, p ∈ f1 i → ∃ o, H1 p = some o := fun {i p} hp => let ⟨o, e, _⟩ := s.fm p ⟨i, hp⟩; ⟨o, e⟩
  have nin : ∀ {i p}, i ∈ vs → p ∈ f1 i → ¬ (Owns f2 p ∨ p ∈ fv) := fun {i p} hi hp z => by
    rcases a.dom p z with z | z
    · exact out hi hp z
    · obtain ⟨o, e⟩ := there hp
      rw [z] at e; cases e
  have mem : ∀ {j p}, p ∈ restF vs f1 f2 j → (j ∈ vs ∧ p ∈ f1 j) ∨ (j ∉ vs ∧ p ∈ f2 j) := fun {j p} h => by
    unfold restF at h
    by_cases hj : j ∈ vs
    · rw [if_pos hj] at h; exact .inl ⟨hj, h⟩
    · rw [if_neg hj] at h; exact .inr ⟨hj, h⟩
  have tp : Tups H1 H2 := a.stp.tups fun p hp => s.fm p hp.hide
  refine ⟨⟨fun p o e n => a.stp.keep p o e fun z => n z.hide, a.stp.dom, a.stp.gm, fun p o e => ?_⟩, ?_, a.nd, fun p hp => ?_, a.gf, a.al, fun p hp => ?_, a.nl⟩
  · rcases a.stp.gn p o e with z | z | z
    · exact .inl z
    · exact .inr (.inl z.hide)
    · exact .inr (.inr z)
  · refine ⟨by rw [restE_len, ← hl]; exact s.len, fun i m d e => ?_, fun i p h => ?_, fun i => ?_, fun i j p n h h' => ?_, a.sr.gh, fun i p h => ?_, a.sr.lk, fun i p h => ?_⟩
    · by_cases hi : i ∈ vs
      · rw [restE_in hi hl] at e
        obtain ⟨v, ev, r⟩ := s.slot i m d e
        refine ⟨v, ev, ?_⟩
        rw [restF, if_pos hi]
        cases m with
        | own n => exact RepO.mono tp a.stp.gm r (fun p hp o e => a.stp.keep p o e (out hi hp)) fun p hp o e => a.stp.keep p o e (out hi hp)
        | lok n =>
          obtain ⟨e0, fq, r, l⟩ := r
          have kp : ∀ p ∈ fq, ∀ o, H1 p = some o → H2 p = some o := fun p hp o e => a.stp.keep p o e fun ⟨j, z⟩ => s.lf j p (hideF_mem z).2 (l p hp)
          refine ⟨e0, fq, RepO.mono tp a.stp.gm r (fun p hp o e => ?_) kp, l⟩
          rcases e with e | ⟨q, e⟩
          · exact .inl (kp p hp _ e)
          · exact .inr ⟨q, kp p hp _ e⟩
      · rw [restE_out hi] at e
        obtain ⟨v, ev, r⟩ := a.sr.slot i m d e
        rw [wipe_out hi] at ev
        refine ⟨v, ev, ?_⟩
        rw [restF, if_neg hi]
        exact r
    · rcases mem h with ⟨hi, h⟩ | ⟨hi, h⟩
      · obtain ⟨n, d, e⟩ := s.own i p h
        exact ⟨n, d, by rw [restE_in hi hl]; exact e⟩
      · obtain ⟨n, d, e⟩ := a.sr.own i p h
        exact ⟨n, d, by rw [restE_out hi]; exact e⟩
    · by_cases hi : i ∈ vs
      · rw [restF, if_pos hi]; exact s.nd i
      · rw [restF, if_neg hi]; exact a.sr.nd i
    · rcases mem h with ⟨hi, h⟩ | ⟨hi, h⟩
      · rcases mem h' with ⟨hj, h'⟩ | ⟨hj, h'⟩
        · exact s.dj i j p n h h'
        · exact nin hi h (.inl ⟨j, h'⟩)
      · rcases mem h' with ⟨hj, h'⟩ | ⟨hj, h'⟩
        · exact nin hj h' (.inl ⟨i, h⟩)
        · exact a.sr.dj i j p n h h'
    · rcases mem h with ⟨hi, h⟩ | ⟨hi, h⟩
      · cases q : G2 p with
        | none => rfl
        | some o =>
          rcases a.stp.gn p o q with z | z | z
          · rw [s.gf i p h] at z; cases z
          · exact absurd z (out hi h)
          · obtain ⟨o, e⟩ := there h
            rw [z] at e; cases e
      · exact a.sr.gf i p h
    · rcases mem h with ⟨hi, h⟩ | ⟨hi, h⟩
      · exact s.lf i p h
      · exact a.sr.lf i p h
  · rintro ⟨j, z⟩
    rcases mem z with ⟨hj, z⟩ | ⟨hj, z⟩
    · exact nin hj z (.inr hp)
    · exact a.dj p hp ⟨j, z⟩
  · rcases hp with ⟨j, z⟩ | z
    · rcases mem z with ⟨hj, z⟩ | ⟨hj, z⟩
      · exact .inl ⟨j, z⟩
      · exact (a.dom p (.inl ⟨j, z⟩)).imp Owns.hide id
    · exact (a.dom p (.inr z)).imp Owns.hide id
end
end Sq
/-! Sq7: comprehensions, iterables -/
namespace Sq
open PySem PySem.Spec PyProof.Rows L2
def compW (g : WG) (t : WT) (el : WE) (vs : List Nat) (k : Nat) : List D → List D → En → (List D → En → Prop) → Prop
  | [], acc, e, Q => Q acc e
  | d :: ds, acc, e, Q => g 0 d e fun e1 => t e1 fun b e2 => if b = true then el e2 fun n y e3 => (n = k ∨ (n = 0 ∧ isLeaf y = true)) ∧ compW g t el vs k ds (acc ++ [y]) (wipeE vs e3) Q
    else compW g t el vs k ds acc (wipeE vs e2) Q
def wComp (wi : WI) (g : WG) (t : WT) (el : WE) (vs : List Nat) (k : Nat) : WE := fun env Q => wi env fun ds e1 => compW g t el vs k ds [] (wipeE vs e1) fun acc e2 => Q (k + 1) (.list acc) (restE vs e1 e2)
theorem wipe_in : ∀ {vs : List Nat} {σ : L2.St} {i : Nat}, i ∈ vs → (wipe σ vs)[i]? = if i < σ.length then some none else none
  | v :: vs, e, i, h => by
    unfold wipe
    by_cases hv : v = i
    · subst hv
      by_cases hi : v < e.length
      · rw [if_pos hi, List.getElem?_set_self (by rw [wipe_length]; exact hi)]
      · rw [if_neg hi, List.getElem?_eq_none (by rw [List.length_set, wipe_length]; omega)]
    · rw [List.getElem?_set_ne hv]
      exact wipe_in ((List.mem_cons.mp h).resolve_left fun z => hv z.symm)
theorem wipe_kp {vs : List Nat} {σ σ' : L2.St} (h : Kp (· ∈ vs) (wipe σ vs) σ') : wipe σ' vs = wipe σ vs := by
  have hl : σ'.length = σ.length := by rw [h.1, wipe_length]
  refine List.ext_getElem? fun i => ?_
  by_cases hi : i ∈ vs
  · rw [wipe_in hi, wipe_in hi, hl]
  · rw [wipe_out hi, h.2 i hi]
section
variable {K : Frag} {G H G1 H1 G2 H2 : Hp} {L : Addr → Prop} {σ σ' : L2.St} {e1 e2 : En} {f1 f2 : Fps} {fv : List Addr}
/-- a held list is written -/
theorem Post.updHeld {F : Addr → Prop} {D : Addr} {xs ys : List V} (a : Post K G H L σ F G1 H1 e1 f1 fv) (hD : D ∈ fv) (h : H1 D = some (.lst xs)) (h0 : F D ∨ H D = none) : Post K G H L σ F G1 (upd H1 D (.lst ys)) e1 f1 fv := by
  have tp : Tups H1 (upd H1 D (.lst ys)) := fun p zs r => by
    have n : p ≠ D := fun e => by
      subst e
      rcases r with r | ⟨_, r⟩ <;> (rw [h] at r; cases r)
    rcases r with r | ⟨o, r⟩
    · exact .inl (by rw [upd_ne n]; exact r)
    · exact .inr ⟨o, by rw [upd_ne n]; exact r⟩
  have ne : ∀ {p}, Owns f1 p → p ≠ D := fun z e => a.dj D hD (e ▸ z)
  have s := a.sr
  refine ⟨⟨fun p o e n => ?_, fun p e => ?_, a.stp.gm, a.stp.gn⟩, ?_, a.nd, a.dj, a.gf, fun p hp => ?_, a.dom, a.nl⟩
  · rw [upd_ne fun z => by
      subst z
      rcases h0 with z | z
      · exact n z
      · rw [z] at e; cases e]
    exact a.stp.keep p o e n
  · by_cases hp : p = D
    · subst hp; rw [upd_same] at e; cases e
    · rw [upd_ne hp] at e; exact a.stp.dom p e
  · refine ⟨s.len, fun i m d e => ?_, s.own, s.nd, s.dj, fun p o e => ?_, s.gf, fun p l => ?_, s.lf⟩
    · obtain ⟨v, ev, r⟩ := s.slot i m d e
      refine ⟨v, ev, ?_⟩
      cases m with
      | own n => exact RepO.mono tp (Le.refl _) r (fun p hp o e => by rw [At, upd_ne (ne ⟨i, hp⟩)]; exact e) fun p hp o e => by rw [upd_ne (ne ⟨i, hp⟩)]; exact e
      | lok n =>
        obtain ⟨e0, fq, r, l⟩ := r
        have nq : ∀ p ∈ fq, p ≠ D := fun p hp z => a.nl D hD (z ▸ l p hp)
        refine ⟨e0, fq, RepO.mono tp (Le.refl _) r (fun p hp o e => ?_) (fun p hp o e => by rw [upd_ne (nq p hp)]; exact e), l⟩
        rcases e with e | ⟨q, e⟩
        · exact .inl (by rw [upd_ne (nq p hp)]; exact e)
        · exact .inr ⟨q, by rw [upd_ne (nq p hp)]; exact e⟩
    · have n : p ≠ D := fun z => by rw [z, a.gf D hD] at e; cases e
      rcases s.gh p o e with r | ⟨q, r⟩
      · exact .inl (by rw [upd_ne n]; exact r)
      · exact .inr ⟨q, by rw [upd_ne n]; exact r⟩
    · by_cases hp : p = D
      · subst hp; exact ⟨_, upd_same⟩
      · rw [upd_ne hp]; exact s.lk p l
  · by_cases hp' : p = D
    · subst hp'; exact ⟨_, upd_same⟩
    · rw [upd_ne hp']; exact a.al p hp
theorem Sty.of' {G0 H0 : Hp} {F F1 : Addr → Prop} {fv2 : List Addr} (a : Post K G H L σ F G1 H1 e1 f1 fv) (hF : ∀ p, F1 p → Owns f1 p) (b : Post K G1 H1 L σ' F1 G2 H2 e2 f2 fv2) : Sty G1 H1 fv G2 H2 :=
  ⟨b.stp.tups fun p hp => a.sr.fm p (hF p hp), b.stp.gm, b.sr.gh, fun p hp o e => b.stp.keep p o e fun z => hp.elim (fun h => a.dj p h (hF p z)) fun ⟨o', h⟩ => by
    obtain ⟨i, hi⟩ := hF p z
    rw [a.sr.gf i p hi] at h
    cases h⟩
theorem ROs.snoc {O : Addr → HO → Prop} {n : Nat} {v : V} {d : D} {g : List Addr} : ∀ {vs : List V} {ds : List D} {fp : List Addr}, ROs K G H O n vs ds fp → RepO K G H O n v d g → ROs K G H O n (vs ++ [v]) (ds ++ [d]) (fp ++ g)
  | _, _, _, .nil, h => by
    have q := ROs.cons h .nil
    rw [List.append_nil] at q
    exact q
  | _, _, _, .cons r rs, h => by
    rw [List.append_assoc]
    exact .cons r (ROs.snoc rs h)
end
theorem toK {K : Frag} {G H : Hp} {O : Addr → HO → Prop} {n k : Nat} {v : V} {d : D} {fp : List Addr} (r : RepO K G H O n v d fp) (h : n = k ∨ (n = 0 ∧ isLeaf d = true)) : RepO K G H O k v d fp := by
  rcases h with h | ⟨h, hl⟩
  · subst h; exact r
  · subst h
    obtain ⟨r0, e0⟩ := RepO.plain r
    rw [e0]
    cases k with
    | zero => exact .frz r0
    | succ k => exact .leaf hl r0
section
variable {X : Cx} {pos : Pos}
def wYes : WT := fun env Q => Q true env
theorem pts_imp {e : List Expr} {t t' : TT} (h : PTs X e t) (k : ∀ σ H Q, t' σ H Q → t σ H Q) : PTs X e t' := ⟨fun pins s σ H Q I q => h.run pins s σ H Q I (k σ H Q q)⟩
theorem snd_yes : PTs X [] (rdT X.K wYes) := pts_imp pts_nil fun σ H Q ⟨G, L, env, f, P, s, h, q⟩ => q true env h G H f (.refl s)
theorem snd_ift {c : Expr} {t : WT} (h : PT X c (rdT X.K t)) : PTs X [c] (rdT X.K t) := pts_one h
theorem comp_rd {vs : List Nat} {wi : WI} {g : WG} {t : WT} {el : WE} {k : Nat} {σ : L2.St} {H : Hp} {Q : VK} (h : rdE X.K (wComp wi g t el vs k) σ H Q) :
    tLc (rdI X.K wi) (rdG X.K (· ∈ vs) g) (rdT X.K t) (rdE X.K el) vs σ H Q := by
  obtain ⟨G, L, env, f, P, s, h, q⟩ := h
  refine ⟨G, L, env, f, _, s, h, fun ds e1 h1 J G1 H1 f1 fv p1 ok => ?_⟩
  obtain ⟨hz, Gd, Yd, wk, hG, hY⟩ := ok
  intro D hD
  have s0 := p1.sr.hide vs
  have b0 : Post X.K G1 H1 L (wipe σ vs) (Owns (hideF vs f1)) G1 (upd H1 D (.lst [])) (wipeE vs e1) (hideF vs f1) [D] :=
    Post.of_le s0 (le_upd hD) (by simp) (fun p hp => by simp at hp; subst hp; exact hD) fun p hp => by simp at hp; subst hp; exact ⟨_, upd_same⟩
  refine lc_it wk (fun i H' => ∃ G2 e2 f2 accV acc fa, Post X.K G1 H1 L (wipe σ vs) (Owns (hideF vs f1)) G2 H' e2 f2 (D :: fa) ∧ H' D = some (.lst accV) ∧ accV.length ≤ i ∧ ROs X.K G2 H' (At H') k accV acc fa ∧
      compW g t el vs k (ds.drop i) acc e2 fun acc e2 => P (k + 1) (.list acc) (restE vs e1 e2)) ⟨G1, _, _, [], [], [], b0, upd_same, Nat.zero_le _, .nil, h1⟩ ?_ ?_ ?_
  · rintro i H' _ ⟨G2, e2, f2, accV, acc, fa, p2, _⟩
    exact hG _ _ (Sty.of' (G0 := G) (H0 := H) p1 (fun p hp => hp.hide) p2)
  · rintro i x H' H'' hi ⟨G2, e2, f2, accV, acc, fa, p2, hl, hle, ra, h2⟩ y
    obtain ⟨le, d, ed, rd⟩ := hY i G2 H' x H'' (Sty.of' (G0 := G) (H0 := H) p1 (fun p hp => hp.hide) p2) y
    rw [drop_cons ed] at h2
    have p2' := p2.grow le
    have ra' : ROs X.K G2 H'' (At H'') k accV acc fa := ROs.mono (Tups.of_le le) (Le.refl _) ra (fun p _ o e => le p o e) fun p _ o e => le p o e
    have hl' := le _ _ hl
    refine ⟨G2, L, e2, f2, 0, d, [], _, (Post.refl p2'.sr).w1, .frz rd, h2, fun e3 h3 σ3 G3 H3 f3 p3 k3 => ?_⟩
    have hw := wipe_kp k3
    have p3 := p3.w0
    refine ⟨hw, G3, L, e3, f3, _, p3.sr, h3, fun b e4 h4 G4 H4 f4 p4 => ?_⟩
    have p34 := p3.seq p4
    have nD : ¬ Owns f2 D := p2'.dj D (by simp)
    have na : ∀ p ∈ fa, ¬ Owns f2 p := fun p hp => p2'.dj p (by simp [hp])
    cases b with
    | false =>
      refine iteF ?_
      have h4 := (if_neg Bool.false_ne_true).mp h4
      have pa := ((p2'.seq p34).drop (fv2 := D :: fa) (fun p hp => by simpa using hp) p2'.nd).hide vs hw
      exact ⟨G4, _, _, accV, acc, fa, pa, p34.stp.keep _ _ hl' nD, by omega, ROs.mono (p34.stp.tups p2'.sr.fm) p34.stp.gm ra' (fun p hp o e => p34.stp.keep p o e (na p hp)) fun p hp o e => p34.stp.keep p o e (na p hp), h4⟩
    | true =>
      refine iteT ?_
      have h4 := (if_pos rfl).mp h4
      refine ⟨G4, L, e4, f4, _, p4.sr, h4, ?_⟩
      rintro n z e5 ⟨hn, h5⟩ v G5 H5 f5 fy p5 r5
      have p35 := p34.seq p5
      have hl5 : H5 D = some (.lst accV) := p35.stp.keep _ _ hl' nD
      have pa := (p2'.seq p35).drop (fv2 := D :: (fa ++ fy)) (fun p hp => by simpa using hp) (by simpa using (p2'.seq p35).nd)
      have nd := pa.nd
      rw [List.nodup_cons] at nd
      have nfa : ∀ p ∈ fa ++ fy, p ≠ D := fun p hp e => nd.1 (e ▸ hp)
      have tp : Tups H5 (upd H5 D (.lst (accV ++ [v]))) := fun p zs r => by
        have n : p ≠ D := fun e => by
          subst e
          rcases r with r | ⟨_, r⟩ <;> (rw [hl5] at r; cases r)
        rcases r with r | ⟨o, r⟩
        · exact .inl (by rw [upd_ne n]; exact r)
        · exact .inr ⟨o, by rw [upd_ne n]; exact r⟩
      have ra5 : ROs X.K G5 H5 (At H5) k accV acc fa := ROs.mono (p35.stp.tups p2'.sr.fm) p35.stp.gm ra' (fun p hp o e => p35.stp.keep p o e (na p hp)) fun p hp o e => p35.stp.keep p o e (na p hp)
      have rb := ROs.snoc ra5 (toK r5 hn)
      refine ⟨accV, hl5, by omega, G5, _, _, accV ++ [v], acc ++ [z], fa ++ fy, (pa.updHeld (by simp) hl5 (.inr hD)).hide vs hw, upd_same, by rw [List.length_append]; simp; omega, ?_, h5⟩
      exact ROs.mono tp (Le.refl _) rb (fun p hp o e => by rw [At, upd_ne (nfa p hp)]; exact e) fun p hp o e => by rw [upd_ne (nfa p hp)]; exact e
  · rintro H' ⟨G2, e2, f2, accV, acc, fa, p2, hl, hle, ra, h2⟩
    rw [List.drop_length] at h2
    exact q (k + 1) (.list acc) _ h2 (.ref D) G2 H' _ (D :: fa) (p1.drop0.seq (Post.rest p1.sr vs p2)) (.lst hl (by omega) ra)
theorem snd_comp {elt tg iter : Expr} {ifs : List Expr} {scope : Scope} {own : List (Str × Nat)} {wi : WI} {g : WG} {t : WT} {el : WE} {k : Nat} (hc : X.calm = true) (hN : X.N.Nodup) (hi : PI X tg iter (rdI X.K wi)) (ok : BlkOk X.N X.env.scope scope own)
    (hg : ∀ (s : Shared) (H : Hp) (C : Addr) (cl : List (Str × Addr)) (fp : List Addr), PG (X.blk s H scope (compEnvC scope cl C X.env) fp) tg (rdG X.K (· ∈ own.map (·.2)) g))
    (ht : ∀ (s : Shared) (H : Hp) (C : Addr) (cl : List (Str × Addr)) (fp : List Addr), PTs (X.blk s H scope (compEnvC scope cl C X.env) fp) ifs (rdT X.K t))
    (he : ∀ (s : Shared) (H : Hp) (C : Addr) (cl : List (Str × Addr)) (fp : List Addr), PE (X.blk s H scope (compEnvC scope cl C X.env) fp) elt (rdE X.K el)) (hs : ∀ x, foldedSetIterable iter X.env x = pure x) :
    PE X (.ListComp elt [⟨tg, iter, ifs, 0⟩] scope pos) (rdE X.K (wComp wi g t el (own.map (·.2)) k)) :=
  pe_imp (pe_lc hc hN hi ok hg ht he hs) fun σ H Q h => comp_rd h
end
/-! ### what is walked: lists and tuples -/
section
variable {K : Frag} {G H : Hp}
theorem items_list {p : Addr} {vs : List V} {ds : List D} {fp : List Addr} (h : ∀ G2 H2, Sty G H fp G2 H2 → SqL K H2 p vs) (z : vs.length ≤ sizeLine) (r : RepFs K G H vs ds) : ItemsOk K G H fp (Itl K p) ds := by
  have e := RepFs.length r
  refine ⟨by omega, _, _, by rw [← e]; exact walk_list (xs := vs), h, ?_⟩
  rintro i G2 H2 x H3 st ⟨rfl, hx⟩
  refine ⟨Le.refl _, ?_⟩
  obtain ⟨d, ed, rd⟩ := r.getV hx
  exact ⟨d, ed, rd.mono st.1 st.2.1⟩
theorem items_tup {p : Addr} {vs : List V} {ds : List D} {fp : List Addr} (h : SqT K H p vs) (z : vs.length ≤ sizeLine) (r : RepFs K G H vs ds) : ItemsOk K G H fp (Itt K p) ds := by
  have e := RepFs.length r
  refine ⟨by omega, _, _, by rw [← e]; exact walk_tup (xs := vs), fun G2 H2 st => sqT_mono st.1 h, ?_⟩
  rintro i G2 H2 x H3 st ⟨rfl, hx⟩
  refine ⟨Le.refl _, ?_⟩
  obtain ⟨d, ed, rd⟩ := r.getV hx
  exact ⟨d, ed, rd.mono st.1 st.2.1⟩
end
/-- what an operand that is walked gives: its items. A slot's list must be frozen. -/
def itemsD (env : En) : Opd → (List D → Prop) → Prop
  | .tmp n d, Q => starD n d Q
  | .sl i, Q => ∃ d, env[i]? = some (some (.own 0, d)) ∧ starD 0 d Q
/-- .. as a list or a tuple that stays -/
theorem items_opd {K : Frag} {G0 H0 G H : Hp} {L : Addr → Prop} {σ : L2.St} {F : Addr → Prop} {env : En} {f : Fps} {fv : List Addr} (a : Post K G0 H0 L σ F G H env f fv) {o : Opd} {v : V} (r : OpdR K G H σ o v fv) {Q : List D → Prop} (h : itemsD env o Q) :
    ∃ p vs ds, v = .ref p ∧ vs.length ≤ sizeLine ∧ RepFs K G H vs ds ∧ Q ds ∧ (SqT K H p vs ∨ ∀ G2 H2, Sty G H fv G2 H2 → SqL K H2 p vs) := by
  have frozen : ∀ {v : V} {d : D}, RepF K G H v d → starD 0 d Q → ∃ p vs ds, v = .ref p ∧ vs.length ≤ sizeLine ∧ RepFs K G H vs ds ∧ Q ds ∧ (SqT K H p vs ∨ ∀ G2 H2, Sty G H fv G2 H2 → SqL K H2 p vs) := fun {v d} r h => by
    cases r with
    | tup h1 z rs => exact ⟨_, _, _, rfl, z, rs, h, .inl h1⟩
    | lst h1 z rs => exact ⟨_, _, _, rfl, z, rs, h.2, .inr fun G2 H2 st => .inl (st.2.2.1 _ _ (st.2.1 _ _ h1))⟩
    | lstK h1 z rs => exact ⟨_, _, _, rfl, z, rs, h.2, .inr fun G2 H2 st => .inr h1⟩
    | non => exact h.elim
    | bl b => exact h.elim
    | int i => exact h.elim
    | str x => exact h.elim
    | dck _ _ _ _ _ => exact h.elim
    | dct _ _ _ _ _ => exact h.elim
    | ins _ _ _ _ _ => exact h.elim
  cases o with
  | sl i =>
    obtain ⟨d, e, h⟩ := h
    obtain ⟨_, e1⟩ := r
    obtain ⟨v', e2, r2⟩ := a.sr.slot i _ _ e
    rw [e1] at e2
    cases e2
    exact frozen (RepO.plain r2).1 h
  | tmp n d =>
    have r' : RepO K G H (At H) n v d fv := r
    have h' : starD n d Q := h
    clear r h
    cases r' with
    | frz q => exact frozen q h'
    | leaf hl q =>
      refine frozen q ?_
      cases d <;> first | exact h' | cases hl
    | @lst n p vs ds fp h1 z rs =>
      obtain ⟨hn, h2⟩ := h'
      have hn0 : n = 0 := by omega
      subst hn0
      obtain ⟨rs, e0⟩ := ROs.plain rs
      exact ⟨_, _, _, rfl, z, rs, h2, .inr fun G2 H2 st => .inl (.inl (st.2.2.2 _ (by simp) _ h1))⟩
    | dck _ _ _ _ _ => exact h'.elim
    | dct _ _ _ _ _ => exact h'.elim
    | ins _ _ _ _ _ => exact h'.elim
def wiSeq (o : WO) : WI := fun env Q => o env fun od e1 => itemsD e1 od fun ds => Q ds e1
section
variable {X : Cx} {tg e : Expr}
/-- a list or a tuple is walked -/
theorem snd_seqI {wo : WO} (he : PE X e (rdO X.K wo)) : PI X tg e (rdI X.K (wiSeq wo)) := by
  refine ⟨fun pins s σ H R I ⟨G, L, env, f, P, sr, h, q⟩ => ?_⟩
  have hr : rdO X.K wo σ H fun x H1 => ∃ p vs, x = .ref p ∧ ((SqT X.K H1 p vs ∧ R (Itt X.K p) H1) ∨ (SqL X.K H1 p vs ∧ R (Itl X.K p) H1)) := by
    refine ⟨G, L, env, f, _, sr, h, fun o e1 h1 v G1 H1 f1 fv p1 r1 => ?_⟩
    obtain ⟨p, vs, ds, rfl, z, rs, h2, h3⟩ := items_opd p1 r1 h1
    rcases h3 with h3 | h3
    · exact ⟨p, vs, rfl, .inl ⟨h3, q ds e1 h2 _ G1 H1 f1 fv p1 (items_tup h3 z rs)⟩⟩
    · refine ⟨p, vs, rfl, .inr ⟨h3 G1 H1 ⟨Tups.refl _, Le.refl _, p1.sr.gh, fun _ _ _ e => e⟩, q ds e1 h2 _ G1 H1 f1 fv p1 (items_list h3 z rs)⟩⟩
  refine thn (he.run pins s σ H _ I hr) ?_
  rintro u s1 ⟨x, H1, I1, rx, p, vs, rfl, ⟨ht, hR⟩ | ⟨ht, hR⟩⟩
  · cases rx
    obtain ⟨its, rv, pl, hz⟩ := I1.tuple ht
    exact wpAny_pyIter_tuple (show s1.heap.IsTuple p its.toArray from pl) (pi_one (tk := s1.toks) I1 _ (turn_tuple p _) ⟨_, Heap.get?_push_size _ rfl, rfl, rfl⟩ hR)
  · cases rx
    obtain ⟨its, rv, pl, hz⟩ := I1.list ht
    exact wpAny_pyIter_list pl.isList (pi_one (tk := s1.toks) I1 _ (turn_list p _) ⟨_, Heap.get?_push_size _ rfl, rfl, rfl⟩ hR)
end
end Sq
/-! Sq8: ranges, enumerate, zip -/
namespace Sq
open PySem PySem.Spec PyProof.Rows L2
/-! ### sources: a list or a tuple -/
def SqX (t : Bool) (K : Frag) (H : Hp) (a : Addr) (xs : List V) : Prop := if t = true then SqT K H a xs else SqL K H a xs
def ItX (t : Bool) (h : Heap) (it a : Addr) (i : Nat) : Prop := if t = true then h.IsTupleIter it a i else h.IsListIter it a i
def ObX (t : Bool) (h : Heap) (a : Addr) (its : Array Value) : Prop := if t = true then h.IsTuple a its else h.IsList a its
theorem SqX.len {t : Bool} {X : Cx} {pins : List (Addr × Obj)} {σ : L2.St} {H : Hp} {s : Shared} {a : Addr} {xs : List V} (I : Inv X pins σ H s) (h : SqX t X.K H a xs) : ∃ its : List Value, Vals xs its ∧ ObX t s.heap a its.toArray := by
  cases t with
  | true =>
    obtain ⟨its, r, p, _⟩ := I.tuple h
    exact ⟨its, r, p⟩
  | false =>
    obtain ⟨its, r, p, _⟩ := I.list h
    exact ⟨its, r, p.isList⟩
theorem SqX.inj {t : Bool} {X : Cx} {pins : List (Addr × Obj)} {σ : L2.St} {H : Hp} {s : Shared} {a : Addr} {xs ys : List V} (I : Inv X pins σ H s) (h : SqX t X.K H a xs) (k : SqX t X.K H a ys) : xs = ys := by
  cases t with
  | true => exact I.tuple_inj h k
  | false => exact I.list_inj h k
theorem ItX.at {t : Bool} {h h' : Heap} {it a : Addr} {i : Nat} (x : ItX t h it a i) (k : ∀ o, h.get? it = some o → h'.get? it = some o) : ItX t h' it a i := by
  cases t with
  | true => exact Heap.IsTupleIter.at (show h.IsTupleIter it a i from x) k
  | false => exact Heap.IsListIter.at (show h.IsListIter it a i from x) k
theorem ItX.obj {t : Bool} {h : Heap} {it a : Addr} {i : Nat} (x : ItX t h it a i) : ∃ o vs, h.get? it = some o ∧ o.data = .fields vs := by
  cases t with
  | true => obtain ⟨o, e, _, d⟩ := (show h.IsTupleIter it a i from x); exact ⟨o, _, e, d⟩
  | false => obtain ⟨o, e, _, d⟩ := (show h.IsListIter it a i from x); exact ⟨o, _, e, d⟩
theorem ObX.obj {t : Bool} {h : Heap} {a : Addr} {its : Array Value} (x : ObX t h a its) : ∃ o n, h.get? a = some o ∧ o.data = .seq its n := by
  cases t with
  | true => obtain ⟨o, e, _, n, d⟩ := (show h.IsTuple a its from x); exact ⟨o, n, e, d⟩
  | false => obtain ⟨o, e, _, n, d⟩ := (show h.IsList a its from x); exact ⟨o, n, e, d⟩
/-! ### enumerate -/
set_option maxHeartbeats 1000000 in
section
variable {K : Frag} {G H : Hp}
def enumL (ds : List D) : List D := (ds.zipIdx).map fun p => .tuple [.int (p.2 : Nat), p.1]
end
section
variable {X : Cx} {e : Expr} {p pos tpos : Pos} {elts : List Expr} {kk : Nat}
def wiEnum (o : WO) : WI := fun env Q => o env fun od e1 => itemsD e1 od fun ds => Q (enumL ds) e1
/-! ### ranges -/
def rangeL (lo : Int) (n : Nat) : List D := (List.range n).map fun i => .int (lo + (i : Nat))
theorem items_range {K : Frag} {G H : Hp} {fp : List Addr} {lo : Int} {n : Nat} (z : n ≤ sizeLine) : ItemsOk K G H fp (Itr lo n) (rangeL lo n) := by
  have e : (rangeL lo n).length = n := by simp [rangeL]
  refine ⟨by omega, (fun _ => True), (fun i H x H' => (H' = H ∧ x = .int (lo + i)) ∧ i < n), ⟨fun i _ hi _ => by rw [e] at hi; exact hi, fun _ _ => by rw [e]; exact Nat.le_refl _, fun i _ _ _ hi _ y => ⟨y, by rw [e] at hi; exact hi⟩⟩, fun _ _ _ => trivial, ?_⟩
  rintro i G2 H2 x H3 st ⟨⟨rfl, rfl⟩, hi⟩
  exact ⟨Le.refl _, .int (lo + (i : Nat)), by simp [rangeL, hi], .int _⟩
def inB (j : Int) : Prop := -(2 ^ 62) ≤ j ∧ j < 2 ^ 62
def wiRange1 (a : WE) : WI := fun env Q => a env fun _ d e1 => ∃ j, d = .int j ∧ inB j ∧ j ≤ 16777216 ∧ Q (rangeL 0 j.toNat) e1
def wiRange2 (a b : WE) : WI := fun env Q => a env fun _ d e1 => ∃ i, d = .int i ∧ b e1 fun _ d' e2 => ∃ j, d' = .int j ∧ (inB i ∧ inB j) ∧ j - i ≤ 16777216 ∧ Q (rangeL i (j - i).toNat) e2
theorem snd_range1 {tg a : Expr} {wa : WE} (hg : Gl X "range") (hm : X.mg "range" = none) (ha : PE X a (rdE X.K wa)) (hs : starEach [a] X.env = [(false, eval a X.env)]) : PI X tg (.Call (.Name "range" p) [a] [] pos) (rdI X.K (wiRange1 wa)) :=
  pi_imp (pi_range1 hg hm (pa_cons ha pa_nil (by rw [hs]; rfl)) hs) fun σ H R ⟨G, L, env, f, P, sr, h, q⟩ => by
    refine ⟨G, L, env, f, _, sr, h, ?_⟩
    rintro n d e1 ⟨j, rfl, hb, hz, h1⟩ v G1 H1 f1 fv p1 r1
    cases (RepO.x r1).int
    exact ⟨j, rfl, hb.1, hb.2, q _ e1 h1 _ G1 H1 f1 fv p1 (items_range (by rw [sizeLine_eq]; omega))⟩
theorem snd_range2 {tg a b : Expr} {wa wb : WE} (hg : Gl X "range") (hm : X.mg "range" = none) (ha : PE X a (rdE X.K wa)) (hb : PE X b (rdE X.K wb)) (hs : starEach [a, b] X.env = [(false, eval a X.env), (false, eval b X.env)]) (hs2 : starEach [b] X.env = [(false, eval b X.env)]) :
    PI X tg (.Call (.Name "range" p) [a, b] [] pos) (rdI X.K (wiRange2 wa wb)) :=
  pi_imp (pi_range2 hg hm (pa_cons ha (pa_cons hb pa_nil (by rw [hs2]; rfl)) (by rw [hs, hs2])) hs hs2) fun σ H R ⟨G, L, env, f, P, sr, h, q⟩ => by
    refine ⟨G, L, env, f, _, sr, h, ?_⟩
    rintro n d e1 ⟨i, rfl, h1⟩ v G1 H1 f1 fv p1 r1
    cases (RepO.x r1).int
    refine ⟨G1, L, e1, f1, _, p1.sr, h1, ?_⟩
    rintro n d e2 ⟨j, rfl, ⟨b1, b2⟩, hz, h2⟩ v G2 H2 f2 fv2 p2 r2
    cases (RepO.x r2).int
    exact ⟨i, j, rfl, ⟨b1.1, b1.2, b2.1, b2.2⟩, q _ e2 h2 _ G2 H2 f2 _ (p1.seq p2) (items_range (by rw [sizeLine_eq]; omega))⟩
end
end Sq
/-! Sq9: dicts, looks into what is owned, writing -/
namespace Sq
open PySem PySem.Spec PyProof.Rows L2
/-! ### keys -/
mutual
def kq : D → D → Bool
  | .int i, .int j => decide (i = j)
  | .str x, .str y => decide (x = y)
  | .tuple xs, .tuple ys => kqs xs ys
  | _, _ => false
def kqs : List D → List D → Bool
  | [], [] => true
  | x :: xs, y :: ys => kq x y && kqs xs ys
  | _, _ => false
end
theorem kq_key (a b : Key) : kq (keyD a) (keyD b) = decide (a = b) := by
  cases a <;> cases b <;> simp [keyD, kq]
def dlook (es : List (D × D)) (k : D) : Option D := (es.find? fun e => kq e.1 k).map (·.2)
def dhas (es : List (D × D)) (k : D) : Bool := es.any fun e => kq e.1 k
def dput (es : List (D × D)) (k v : D) : List (D × D) := if dhas es k = true then es.map (fun e => if kq e.1 k = true then (e.1, v) else e) else es ++ [(k, v)]
/-- a key that an int or a text is -/
def isKey : D → Option Key
  | .int i => some (.inl i)
  | .str x => some (.inr x)
  | _ => none
theorem isKey_rep {K : Frag} {G H : Hp} {v : V} {d : D} {k : Key} (r : RepF K G H v d) (h : isKey d = some k) : v = kV k := by
  cases r <;> first | (cases h; rfl) | cases h
section
variable {κ : Type} [DecidableEq κ] {fk : κ → D} (hk : ∀ a b, kq (fk a) (fk b) = decide (a = b))
include hk
/-- where a key stands -/
theorem look_ix (k : κ) : ∀ {kvs : List (κ × V)} {es : List (D × D)}, es.map (·.1) = kvs.map (fun kv => fk kv.1) →
    (valV kvs k = none ∧ dlook es (fk k) = none ∧ dhas es (fk k) = false) ∨ ∃ j, j < kvs.length ∧ (∃ v d, valV kvs k = some v ∧ dlook es (fk k) = some d ∧ (kvs.map (·.2))[j]? = some v ∧ (es.map (·.2))[j]? = some d) ∧ dhas es (fk k) = true ∧ (kvs.map (·.1))[j]? = some k
  | [], [], _ => .inl ⟨rfl, rfl, rfl⟩
  | [], _ :: _, h => by simp at h
  | _ :: _, [], h => by simp at h
  | (a, v) :: r, (b, d) :: s, h => by
    simp only [List.map_cons, List.cons.injEq] at h
    obtain ⟨h1, h2⟩ := h
    by_cases e : a = k
    · subst e
      refine .inr ⟨0, by simp, ⟨v, d, valV_pos rfl, ?_, by simp, by simp⟩, ?_, by simp⟩
      · simp [dlook, List.find?_cons, h1, hk]
      · simp [dhas, h1, hk]
    · have n : kq b (fk k) = false := by rw [h1, hk]; exact decide_eq_false e
      have l1 : dlook ((b, d) :: s) (fk k) = dlook s (fk k) := by simp [dlook, List.find?_cons, n]
      have l2 : dhas ((b, d) :: s) (fk k) = dhas s (fk k) := by simp [dhas, n]
      rcases look_ix k h2 with ⟨q1, q2, q3⟩ | ⟨j, hj, ⟨v', d', q1, q2, q3, q4⟩, q5, q6⟩
      · exact .inl ⟨by rw [valV_neg e]; exact q1, by rw [l1]; exact q2, by rw [l2]; exact q3⟩
      · exact .inr ⟨j + 1, by simp; omega, ⟨v', d', by rw [valV_neg e]; exact q1, by rw [l1]; exact q2, by simpa using q3, by simpa using q4⟩, by rw [l2]; exact q5, by simpa using q6⟩
omit hk in
theorem map_set_snd {k : κ} {y : V} : ∀ {kvs : List (κ × V)} {j : Nat}, (kvs.map (·.1)).Nodup → (kvs.map (·.1))[j]? = some k → (kvs.map fun kv => if kv.1 = k then (kv.1, y) else kv).map (·.2) = (kvs.map (·.2)).set j y
  | (a, v) :: r, 0, n, h => by
    simp only [List.map_cons, List.getElem?_cons_zero, Option.some.injEq] at h
    subst h
    simp only [List.map_cons, List.set_cons_zero, if_true]
    have z : ∀ p ∈ r, ¬ p.1 = a := fun p hp e => (List.nodup_cons.mp n).1 (by rw [← e]; exact List.mem_map.mpr ⟨p, hp, rfl⟩)
    congr 1
    rw [List.map_map]
    refine List.map_congr_left fun p hp => ?_
    show (if p.1 = a then (p.1, y) else p).2 = p.2
    rw [if_neg (z p hp)]
  | (a, v) :: r, j + 1, n, h => by
    have n' := List.nodup_cons.mp n
    have h' : (r.map (·.1))[j]? = some k := by simpa using h
    have ne : ¬ a = k := fun e => n'.1 (e ▸ List.mem_of_getElem? h')
    simp only [List.map_cons, List.set_cons_succ, if_neg ne]
    rw [map_set_snd n'.2 h']
theorem map_set_sndD {k : κ} {y : D} : ∀ {kvs : List (κ × V)} {es : List (D × D)} {j : Nat}, es.map (·.1) = kvs.map (fun kv => fk kv.1) → (kvs.map (·.1)).Nodup → (kvs.map (·.1))[j]? = some k →
    (es.map fun e => if kq e.1 (fk k) = true then (e.1, y) else e).map (·.2) = (es.map (·.2)).set j y
  | (a, v) :: r, (b, d) :: s, 0, hm, n, h => by
    simp only [List.map_cons, List.cons.injEq] at hm
    simp only [List.map_cons, List.getElem?_cons_zero, Option.some.injEq] at h
    subst h
    have n' := List.nodup_cons.mp n
    have hb : kq b (fk a) = true := by rw [hm.1, hk]; simp
    simp only [List.map_cons, List.set_cons_zero, hb, if_true]
    congr 1
    rw [List.map_map]
    refine List.map_congr_left fun p hp => ?_
    show (if kq p.1 (fk a) = true then (p.1, y) else p).2 = p.2
    have : p.1 ∈ s.map (·.1) := List.mem_map.mpr ⟨p, hp, rfl⟩
    rw [hm.2] at this
    obtain ⟨kv, hkv, e⟩ := List.mem_map.mp this
    have ne : ¬ kv.1 = a := fun z => n'.1 (z ▸ List.mem_map.mpr ⟨kv, hkv, rfl⟩)
    rw [← e, hk, decide_eq_false ne]
    simp
  | (a, v) :: r, (b, d) :: s, j + 1, hm, n, h => by
    simp only [List.map_cons, List.cons.injEq] at hm
    have n' := List.nodup_cons.mp n
    have h' : (r.map (·.1))[j]? = some k := by simpa using h
    have ne : ¬ a = k := fun e => n'.1 (e ▸ List.mem_of_getElem? h')
    have hb : kq b (fk k) = false := by rw [hm.1, hk]; exact decide_eq_false ne
    simp only [List.map_cons, List.set_cons_succ, hb]
    rw [map_set_sndD hm.2 n'.2 h']
    rfl
  | [], _, _, _, _, h => by simp at h
  | _ :: _, [], _, hm, _, _ => by simp at hm
end
/-! ### one place of an owned row, replaced -/
section
variable {K : Frag} {G H : Hp}
theorem ROs.get {O : Addr → HO → Prop} {n : Nat} : ∀ {vs : List V} {ds : List D} {fp : List Addr} {j : Nat} {d : D}, ROs K G H O n vs ds fp → ds[j]? = some d → ∃ v fc, vs[j]? = some v ∧ RepO K G H O n v d fc ∧ ∀ p ∈ fc, p ∈ fp
  | _, _, _, j, d, .nil, e => by simp at e
  | _, _, _, 0, d, .cons h r, e => by
    simp at e
    subst e
    exact ⟨_, _, by simp, h, fun p hp => List.mem_append_left _ hp⟩
  | _, _, _, j + 1, d, .cons h r, e => by
    obtain ⟨v, fc, e1, h1, s⟩ := ROs.get r (by simpa using e)
    exact ⟨v, fc, by simpa using e1, h1, fun p hp => List.mem_append_right _ (s p hp)⟩
/-- the j-th place's own addresses, and the row with another thing there -/
theorem ROs.focus {n : Nat} : ∀ {vs : List V} {ds : List D} {fp : List Addr} {j : Nat} {d : D}, ROs K G H (At H) n vs ds fp → fp.Nodup → ds[j]? = some d → ∃ v fc, vs[j]? = some v ∧ RepO K G H (At H) n v d fc ∧ (∀ p ∈ fc, p ∈ fp) ∧ fc.Nodup ∧
    ∀ {G' H' : Hp} {v' : V} {d' : D} {fc' : List Addr}, (∀ p ∈ fp, p ∉ fc → ∀ o, H p = some o → H' p = some o) → Tups H H' → Le G G' → RepO K G' H' (At H') n v' d' fc' → fc'.Nodup → (∀ p ∈ fc', p ∈ fp → p ∈ fc) →
      ∃ fp', ROs K G' H' (At H') n (vs.set j v') (ds.set j d') fp' ∧ fp'.Nodup ∧ ∀ p ∈ fp', p ∈ fc' ∨ (p ∈ fp ∧ p ∉ fc)
  | _, _, _, j, d, .nil, _, e => by simp at e
  | _, _, _, 0, d, .cons (f1 := f1) (f2 := f2) h r, nd, e => by
    simp at e
    subst e
    rw [List.nodup_append] at nd
    obtain ⟨nd1, nd2, nd3⟩ := nd
    refine ⟨_, f1, by simp, h, fun p hp => List.mem_append_left _ hp, nd1, fun {G' H' v' d' fc'} kp tp lg r' nd' sub => ⟨fc' ++ f2, .cons r' ?_, ?_, fun p hp => ?_⟩⟩
    · have k2 : ∀ p ∈ f2, ∀ o, H p = some o → H' p = some o := fun p hp o e => kp p (List.mem_append_right _ hp) (fun z => nd3 p z p hp rfl) o e
      exact ROs.mono tp lg r k2 k2
    · rw [List.nodup_append]
      refine ⟨nd', nd2, fun x hx y hy z => ?_⟩
      subst z
      exact nd3 x (sub x hx (List.mem_append_right _ hy)) x hy rfl
    · rcases List.mem_append.mp hp with hp | hp
      · exact .inl hp
      · exact .inr ⟨List.mem_append_right _ hp, fun z => nd3 p z p hp rfl⟩
  | _, _, _, j + 1, d, .cons (f1 := f1) (f2 := f2) h r, nd, e => by
    rw [List.nodup_append] at nd
    obtain ⟨nd1, nd2, nd3⟩ := nd
    obtain ⟨v, fc, e1, h1, s, ndc, q⟩ := ROs.focus r nd2 (j := j) (d := d) (by simpa using e)
    refine ⟨v, fc, by simpa using e1, h1, fun p hp => List.mem_append_right _ (s p hp), ndc, fun {G' H' v' d' fc'} kp tp lg r' nd' sub => ?_⟩
    obtain ⟨fp', q1, q2, q3⟩ := q (fun p hp => kp p (List.mem_append_right _ hp)) tp lg r' nd' fun p hp hm => sub p hp (List.mem_append_right _ hm)
    have k1 : ∀ p ∈ f1, ∀ o, H p = some o → H' p = some o := fun p hp o e => kp p (List.mem_append_left _ hp) (fun z => nd3 p hp p (s p z) rfl) o e
    refine ⟨f1 ++ fp', .cons (RepO.mono tp lg h k1 k1) q1, ?_, fun p hp => ?_⟩
    · rw [List.nodup_append]
      refine ⟨nd1, q2, fun x hx y hy z => ?_⟩
      subst z
      rcases q3 x hy with z | ⟨z, _⟩
      · exact nd3 x hx x (s x (sub x z (List.mem_append_left _ hx))) rfl
      · exact nd3 x hx x z rfl
    · rcases List.mem_append.mp hp with hp | hp
      · exact .inr ⟨List.mem_append_left _ hp, fun z => nd3 p hp p (s p z) rfl⟩
      · rcases q3 p hp with z | ⟨z, z'⟩
        · exact .inl z
        · exact .inr ⟨List.mem_append_right _ z, z'⟩
end
end Sq
/-! Sq10: places: a slot and keys into what it holds -/
namespace Sq
open PySem PySem.Spec PyProof.Rows L2
def child (n : Nat) : D → Key → Option (Nat × D)
  | .dict es, k => (dlook es (keyD k)).map fun c => (n - 1, c)
  | .list xs, .inl i => (atI xs i).map fun c => (n - 1, c)
  | .tuple xs, .inl i => (atI xs i).map fun c => (0, c)
  | _, _ => none
/-- a step of a path: a key, or the j-th field of an object, its name -/
inductive Pk where
  | key (k : Key)
  | fld (j : Nat) (g : Str)
/-- the j-th field of an object -/
def isFk (g : Str) : D → Bool
  | .tuple [.str x] => decide (x = g)
  | _ => false
theorem isFk_eq {g : Str} {d : D} (h : isFk g d = true) : d = fkD g := by
  unfold isFk at h
  split at h
  · rw [of_decide_eq_true h]; rfl
  · cases h
theorem isFk_self {g : Str} : isFk g (fkD g) = true := decide_eq_true rfl
def fchild : Nat → D → Nat → Str → Option (Nat × D)
  | n + 1, .dict ((.none, .str _) :: es), j, g => (es[j]?).bind fun q => if isFk g q.1 = true then some (n, q.2) else none
  | _, _, _, _ => none
def pchild (n : Nat) (d : D) : Pk → Option (Nat × D)
  | .key k => child n d k
  | .fld j g => fchild n d j g
def dpath : Nat → D → List Pk → Option (Nat × D)
  | n, d, [] => some (n, d)
  | n, d, k :: ks => (pchild n d k).bind fun c => dpath c.1 c.2 ks
/-- with another thing at one key -/
def cset : D → Key → D → D
  | .dict es, k, c => .dict (dput es (keyD k) c)
  | .list xs, .inl i, c => .list (match ixN xs.length i with | some j => xs.set j c | none => xs)
  | d, _, _ => d
/-- with another thing in the j-th field -/
def fset : D → Nat → D → D
  | .dict (m :: es), j, c => .dict (m :: es.set j (((es[j]?).getD (.none, .none)).1, c))
  | d, _, _ => d
def pset (d : D) : Pk → D → D
  | .key k, c => cset d k c
  | .fld j _, c => fset d j c
def dset : D → List Pk → D → D
  | _, [], c => c
  | d, k :: ks, c => match pchild 1 d k with
    | some x => pset d k (dset x.2 ks c)
    | none => d
def StepV (K : Frag) (H : Hp) (v k u : V) : Prop :=
  (∃ a, v = .ref a ∧ DGet H a k (some u)) ∨ (∃ a vs i, v = .ref a ∧ k = .int i ∧ (SqL K H a vs ∨ SqT K H a vs) ∧ atI vs i = some u)
/-- one step, of values -/
def StepP (K : Frag) (H : Hp) (v : V) : Pk → V → Prop
  | .key k, u => StepV K H v (kV k) u
  | .fld _ g, u => ∃ a C dx fs, v = .ref a ∧ H a = some (.ins C dx fs) ∧ Cls K C ∧ NoAttr K C g ∧ fs.lookup g = some u
inductive PV (K : Frag) (H : Hp) : V → List Pk → V → Prop
  | nil {v : V} : PV K H v [] v
  | cons {v u w : V} {k : Pk} {ks : List Pk} : StepP K H v k u → PV K H u ks w → PV K H v (k :: ks) w
section
variable {K : Frag} {G H : Hp} {n m : Nat} {v : V} {d c : D}
theorem dlook_get {kvs : List (Key × V)} {es : List (D × D)} {k : Key} {c : D} (e : es.map (·.1) = kvs.map (fun kv => keyD kv.1)) (h : dlook es (keyD k) = some c) :
    ∃ (j : Nat) (u : V), valV kvs k = some u ∧ (kvs.map (·.2))[j]? = some u ∧ (es.map (·.2))[j]? = some c ∧ (kvs.map (·.1))[j]? = some k := by
  rcases look_ix kq_key k e with ⟨_, q, _⟩ | ⟨j, _, ⟨v', d', q1, q2, q3, q4⟩, _, q6⟩
  · rw [q] at h; cases h
  · rw [q2] at h; cases h
    exact ⟨j, v', q1, q3, q4, q6⟩
theorem dlook_t {kvs : List (List Key × V)} {es : List (D × D)} {k : Key} {c : D} (e : es.map (·.1) = kvs.map (fun kv => .tuple (kv.1.map keyD))) : dlook (dTmark :: es) (keyD k) = some c → False := by
  have z : ∀ x : List Key, kq (.tuple (x.map keyD)) (keyD k) = false := fun x => by cases k <;> rfl
  have z0 : kq (dTmark.1) (keyD k) = false := by cases k <;> rfl
  unfold dlook
  rw [List.find?_cons, z0]
  intro h
  obtain ⟨p, h, _⟩ := Option.map_eq_some_iff.mp h
  have h1 := List.find?_some h
  have h2 : p.1 ∈ es.map (·.1) := List.mem_map.mpr ⟨p, List.mem_of_find?_eq_some h, rfl⟩
  rw [e] at h2
  obtain ⟨kv, _, e2⟩ := List.mem_map.mp h2
  rw [← e2, z] at h1
  cases h1
theorem dlook_o {fs : List (Str × V)} {es : List (D × D)} {k : Key} {c : D} {x : Str} (e : es.map (·.1) = fs.map (fun kv => fkD kv.1)) : dlook (oMark x :: es) (keyD k) = some c → False := by
  have z : ∀ x : Str, kq (fkD x) (keyD k) = false := fun x => by cases k <;> rfl
  have z0 : kq ((oMark x).1) (keyD k) = false := by cases k <;> rfl
  unfold dlook
  rw [List.find?_cons, z0]
  intro h
  obtain ⟨p, h, _⟩ := Option.map_eq_some_iff.mp h
  have h1 := List.find?_some h
  have h2 : p.1 ∈ es.map (·.1) := List.mem_map.mpr ⟨p, List.mem_of_find?_eq_some h, rfl⟩
  rw [e] at h2
  obtain ⟨kv, _, e2⟩ := List.mem_map.mp h2
  rw [← e2, z] at h1
  cases h1
theorem RepF.child {k : Key} (g : GH G H) (r : RepF K G H v d) (h : child n d k = some (m, c)) : ∃ u, StepV K H v (kV k) u ∧ RepF K G H u c := by
  cases r with
  | non => cases h
  | bl => cases h
  | int => cases h
  | str => cases h
  | tup h1 z r =>
    cases k with
    | inr _ => cases h
    | inl i =>
      obtain ⟨x, e, e2⟩ := Option.map_eq_some_iff.mp h
      cases e2
      obtain ⟨u, e3, r3⟩ := r.at e
      exact ⟨u, .inr ⟨_, _, i, rfl, rfl, .inr h1, e3⟩, r3⟩
  | lst h1 z r =>
    cases k with
    | inr _ => cases h
    | inl i =>
      obtain ⟨x, e, e2⟩ := Option.map_eq_some_iff.mp h
      cases e2
      obtain ⟨u, e3, r3⟩ := r.at e
      exact ⟨u, .inr ⟨_, _, i, rfl, rfl, .inl (.inl (g _ _ h1)), e3⟩, r3⟩
  | lstK h1 z r =>
    cases k with
    | inr _ => cases h
    | inl i =>
      obtain ⟨x, e, e2⟩ := Option.map_eq_some_iff.mp h
      cases e2
      obtain ⟨u, e3, r3⟩ := r.at e
      exact ⟨u, .inr ⟨_, _, i, rfl, rfl, .inl (.inr h1), e3⟩, r3⟩
  | dck h1 z e nd r =>
    obtain ⟨x, e1, e2⟩ := Option.map_eq_some_iff.mp h
    cases e2
    obtain ⟨j, u, q1, q2, q3, q4⟩ := dlook_get e e1
    obtain ⟨u', q5, r5⟩ := r.get q3
    rw [q2] at q5; cases q5
    exact ⟨u, .inl ⟨_, rfl, .inl ⟨_, k, g _ _ h1, rfl, q1.symm⟩⟩, r5⟩
  | dct h1 z e nd r =>
    obtain ⟨x, e1, e2⟩ := Option.map_eq_some_iff.mp h
    exact (dlook_t e e1).elim
  | ins h1 z e nd r =>
    obtain ⟨x, e1, e2⟩ := Option.map_eq_some_iff.mp h
    exact (dlook_o e e1).elim
theorem ROs.at {O : Addr → HO → Prop} {n : Nat} {vs : List V} {ds : List D} {fp : List Addr} {i : Int} {d : D} (r : ROs K G H O n vs ds fp) (h : atI ds i = some d) :
    ∃ j v fc, ixN ds.length i = some j ∧ ds[j]? = some d ∧ atI vs i = some v ∧ vs[j]? = some v ∧ RepO K G H O n v d fc := by
  unfold atI at h ⊢
  rw [ROs.length r]
  cases e : ixN ds.length i with
  | none => rw [e] at h; cases h
  | some j =>
    rw [e] at h
    obtain ⟨v, fc, e1, r1, _⟩ := r.get h
    exact ⟨j, v, fc, rfl, h, e1, e1, r1⟩
theorem RepX.child {k : Key} (g : GH G H) (r : RepX K G H n v d) (h : child n d k = some (m, c)) : ∃ u, StepV K H v (kV k) u ∧ RepX K G H m u c := by
  obtain ⟨fp, r⟩ := r
  cases r with
  | frz r =>
    have h0 : m = 0 := by
      cases r <;> cases k <;> first | (obtain ⟨_, _, e⟩ := Option.map_eq_some_iff.mp h; cases e; rfl) | cases h
    subst h0
    obtain ⟨u, s, r⟩ := r.child g h
    exact ⟨u, s, [], .frz r⟩
  | leaf l r =>
    have h0 : m = 0 := by
      cases r <;> cases k <;> first | (cases l; done) | cases h | (obtain ⟨_, _, e⟩ := Option.map_eq_some_iff.mp h; cases e; rfl)
    subst h0
    obtain ⟨u, s, r⟩ := r.child g h
    exact ⟨u, s, [], .frz r⟩
  | lst h1 z r =>
    cases k with
    | inr _ => cases h
    | inl i =>
      obtain ⟨x, e, e2⟩ := Option.map_eq_some_iff.mp h
      cases e2
      obtain ⟨_, u, fc, _, _, e3, _, r3⟩ := r.at e
      exact ⟨u, .inr ⟨_, _, i, rfl, rfl, .inl (SqL.of h1), e3⟩, fc, r3⟩
  | dck h1 z e nd r =>
    obtain ⟨x, e1, e2⟩ := Option.map_eq_some_iff.mp h
    cases e2
    obtain ⟨j, u, q1, q2, q3, q4⟩ := dlook_get e e1
    obtain ⟨u', fc, q5, r5, _⟩ := r.get q3
    rw [q2] at q5; cases q5
    exact ⟨u, .inl ⟨_, rfl, .inl ⟨_, k, h1, rfl, q1.symm⟩⟩, fc, r5⟩
  | dct h1 z e nd r =>
    obtain ⟨x, e1, e2⟩ := Option.map_eq_some_iff.mp h
    exact (dlook_t e e1).elim
  | ins h1 z e nd r =>
    obtain ⟨x, e1, e2⟩ := Option.map_eq_some_iff.mp h
    exact (dlook_o e e1).elim
theorem fk_inj {f g : Str} (h : fkD f = fkD g) : f = g := by
  have := PyData.tuple.inj h
  simpa using this
theorem lookup_ix : ∀ {fs : List (Str × V)} {j : Nat} {g : Str} {u : V}, (fs.map (·.1)).Nodup → fs[j]? = some (g, u) → fs.lookup g = some u
  | [], j, g, u, _, h => by simp at h
  | q :: fs, 0, g, u, _, h => by
    simp at h
    subst h
    simp [List.lookup]
  | q :: fs, j + 1, g, u, nd, h => by
    simp only [List.map_cons, List.nodup_cons] at nd
    have hm : g ∈ fs.map (·.1) := List.mem_map.mpr ⟨(g, u), List.mem_of_getElem? (by simpa using h), rfl⟩
    have hn : (g == q.1) = false := by
      rw [beq_eq_false_iff_ne]
      intro e
      exact nd.1 (e ▸ hm)
    obtain ⟨a, b⟩ := q
    simp only [List.lookup, hn]
    exact lookup_ix nd.2 (by simpa using h)
/-- the fields, as they stand beside their data -/
theorem flds_at {fs : List (Str × V)} {es : List (D × D)} {j : Nat} {q : D × D} {g : Str} (e : es.map (·.1) = fs.map (fun kv => fkD kv.1)) (nd : (fs.map (·.1)).Nodup) (h : es[j]? = some q) (hq : q.1 = fkD g) :
    ∃ u, fs.lookup g = some u ∧ g ∈ fs.map (·.1) ∧ (fs.map (·.2))[j]? = some u ∧ (es.map (·.2))[j]? = some q.2 := by
  have h1 : (es.map (·.1))[j]? = some q.1 := by rw [List.getElem?_map, h]; rfl
  rw [e, List.getElem?_map] at h1
  obtain ⟨⟨g', u⟩, h2, h3⟩ := Option.map_eq_some_iff.mp h1
  have : g' = g := fk_inj (h3.trans hq)
  subst this
  exact ⟨u, lookup_ix nd h2, List.mem_map.mpr ⟨_, List.mem_of_getElem? h2, rfl⟩, by rw [List.getElem?_map, h2]; rfl, by rw [List.getElem?_map, h]; rfl⟩
theorem fchild_some {n m : Nat} {d c : D} {j : Nat} {g : Str} (h : fchild n d j g = some (m, c)) : ∃ (x : Str) (es : List (D × D)), d = .dict (oMark x :: es) ∧ n = m + 1 ∧ es[j]? = some (fkD g, c) := by
  unfold fchild at h
  split at h
  · obtain ⟨q, e1, e2⟩ := Option.bind_eq_some_iff.mp h
    split at e2
    · rename_i hq
      cases e2
      refine ⟨_, _, rfl, rfl, ?_⟩
      rw [e1, ← isFk_eq hq]
    · cases e2
  · cases h
theorem no_oMark {kvs : List (Key × V)} {es : List (D × D)} {x : Str} (e : (oMark x :: es).map (·.1) = kvs.map (fun kv => keyD kv.1)) : False := by
  cases kvs with
  | nil => cases e
  | cons kv r =>
    have h : PyData.none = keyD kv.1 := (List.cons.inj e).1
    revert h
    cases kv.1 <;> (intro h; cases h)
theorem RepX.fchild {j : Nat} {f : Str} (r : RepX K G H n v d) (h : Sq.fchild n d j f = some (m, c)) : ∃ u, StepP K H v (.fld j f) u ∧ RepX K G H m u c := by
  obtain ⟨fp, r⟩ := r
  obtain ⟨x, es, rfl, rfl, e1⟩ := fchild_some h
  generalize hd : PyData.dict (oMark x :: es) = d0 at r
  cases r with
  | leaf l r => subst hd; cases l
  | lst _ _ _ => cases hd
  | dck h1 z e nd r =>
    cases hd
    exact (no_oMark e).elim
  | dct h1 z e nd r => cases hd
  | ins h1 z e nd r =>
    cases hd
    obtain ⟨u, l1, l0, l2, l3⟩ := flds_at e nd e1 rfl
    obtain ⟨u', fc, q5, r5, _⟩ := r.get l3
    rw [l2] at q5; cases q5
    exact ⟨u, ⟨_, _, _, _, rfl, h1, z.cl, z.na _ l0, l1⟩, fc, r5⟩
theorem RepX.pchild {k : Pk} (g : GH G H) (r : RepX K G H n v d) (h : Sq.pchild n d k = some (m, c)) : ∃ u, StepP K H v k u ∧ RepX K G H m u c := by
  cases k with
  | key k => exact r.child g h
  | fld j f => exact r.fchild h
theorem RepX.path (g : GH G H) : ∀ {ks : List Pk} {n : Nat} {v : V} {d : D}, RepX K G H n v d → dpath n d ks = some (m, c) → ∃ u, PV K H v ks u ∧ RepX K G H m u c
  | [], n, v, d, r, h => by
    cases h
    exact ⟨v, .nil, r⟩
  | k :: ks, n, v, d, r, h => by
    obtain ⟨⟨n1, d1⟩, h1, h2⟩ := Option.bind_eq_some_iff.mp h
    obtain ⟨u, s, r1⟩ := r.pchild g h1
    obtain ⟨w, p, r2⟩ := RepX.path g r1 h2
    exact ⟨w, .cons s p, r2⟩
end
/-! ### the owned child at one key, and the whole with another there -/
section
variable {K : Frag} {G H : Hp} {n m : Nat} {v : V} {d c : D} {fp : List Addr}
/-- the row again, under any step that leaves what is beside the child -/
def Back (K : Frag) (G H : Hp) (n : Nat) (v : V) (fp fc : List Addr) (m : Nat) (w : V) (f : D → D) : Prop :=
  ∀ {G' H' : Hp} {c' : D} {fc' : List Addr}, (∀ p ∈ fp, p ∉ fc → ∀ o, H p = some o → H' p = some o) → Tups H H' → Le G G' → RepO K G' H' (At H') m w c' fc' → fc'.Nodup → (∀ p ∈ fc', p ∈ fp → p ∈ fc) →
    ∃ fp', RepO K G' H' (At H') n v (f c') fp' ∧ fp'.Nodup ∧ ∀ p ∈ fp', p ∈ fc' ∨ (p ∈ fp ∧ p ∉ fc)
theorem set_same {α : Type} {xs : List α} {j : Nat} {x : α} (h : xs[j]? = some x) : xs.set j x = xs := by
  apply List.ext_getElem?
  intro i
  by_cases e : j = i
  · subst e
    rw [List.getElem?_set_self', h]; rfl
  · rw [List.getElem?_set_ne e]
theorem dput_keys {es : List (D × D)} {k v : D} (h : dhas es k = true) : (dput es k v).map (·.1) = es.map (·.1) := by
  unfold dput
  rw [if_pos h, List.map_map]
  refine List.map_congr_left fun p _ => ?_
  show (if kq p.1 k = true then (p.1, v) else p).1 = p.1
  split <;> rfl
theorem child_own {k : Key} (r : RepO K G H (At H) n v d fp) (nd : fp.Nodup) (h : child n d k = some (m + 1, c)) (hp : Rd H = Rd H) :
    ∃ u fc, StepV K H v (kV k) u ∧ RepO K G H (At H) (m + 1) u c fc ∧ fc.Nodup ∧ (∀ p ∈ fc, p ∈ fp) ∧ Back K G H n v fp fc (m + 1) u (fun x => cset d k x) := by
  cases r with
  | frz r => cases r <;> cases k <;> first | (obtain ⟨_, _, e⟩ := Option.map_eq_some_iff.mp h; cases e; done) | cases h
  | leaf l r => cases r <;> cases k <;> first | (cases l; done) | cases h | (obtain ⟨_, _, e⟩ := Option.map_eq_some_iff.mp h; cases e; done)
  | @lst n0 p vs ds fp0 h1 z r =>
    cases k with
    | inr _ => cases h
    | inl i =>
      obtain ⟨x, e, e2⟩ := Option.map_eq_some_iff.mp h
      have e3 : n0 = m + 1 := by simpa using congrArg Prod.fst e2
      have e4 : x = c := congrArg Prod.snd e2
      subst e4
      have e2 := e3
      subst e2
      rw [List.nodup_cons] at nd
      obtain ⟨j, u0, _, ej, e4, e3, e5, _⟩ := r.at e
      obtain ⟨u, fc, e1, r1, sub, ndc, back⟩ := ROs.focus r nd.2 e4
      rw [e1] at e5; cases e5
      refine ⟨u0, fc, .inr ⟨_, _, i, rfl, rfl, .inl (SqL.of h1), e3⟩, r1, ndc, fun q hq => List.mem_cons_of_mem _ (sub q hq), ?_⟩
      intro G' H' c' fc' kp tp lg r' nd' s'
      obtain ⟨fp', q1, q2, q3⟩ := back (fun q hq => kp q (List.mem_cons_of_mem _ hq)) tp lg r' nd' fun q hq hm => s' q hq (List.mem_cons_of_mem _ hm)
      rw [set_same e1] at q1
      have hpn : p ∉ fc := fun z => nd.1 (sub p z)
      have hpn' : p ∉ fc' := fun z => hpn (s' p z List.mem_cons_self)
      refine ⟨p :: fp', ?_, ?_, fun q hq => ?_⟩
      · have := RepO.lst (K := K) (G := G') (H := H') (O := At H') (kp p List.mem_cons_self hpn _ h1) z q1
        simp only [cset, ej]
        exact this
      · rw [List.nodup_cons]
        refine ⟨fun z => ?_, q2⟩
        rcases q3 p z with z | ⟨z, _⟩
        · exact hpn' z
        · exact nd.1 z
      · rcases List.mem_cons.mp hq with z | hq
        · subst z; exact .inr ⟨List.mem_cons_self, hpn⟩
        · rcases q3 q hq with z | ⟨z, z'⟩
          · exact .inl z
          · exact .inr ⟨List.mem_cons_of_mem _ z, z'⟩
  | @dck n0 p kvs es fp0 h1 z e ndk r =>
    obtain ⟨x, e1, e2⟩ := Option.map_eq_some_iff.mp h
    have e3 : n0 = m + 1 := by simpa using congrArg Prod.fst e2
    have e4 : x = c := congrArg Prod.snd e2
    subst e4
    have e2 := e3
    subst e2
    rw [List.nodup_cons] at nd
    rcases look_ix kq_key k e with ⟨_, q, _⟩ | ⟨j, _, ⟨v', d', q1, q2, q3, q4⟩, q5, q6⟩
    · rw [q] at e1; cases e1
    · rw [q2] at e1; cases e1
      obtain ⟨u, fc, ee, r1, sub, ndc, back⟩ := ROs.focus r nd.2 q4
      rw [q3] at ee; cases ee
      refine ⟨v', fc, .inl ⟨_, rfl, .inl ⟨_, k, .inl h1, rfl, q1.symm⟩⟩, r1, ndc, fun q hq => List.mem_cons_of_mem _ (sub q hq), ?_⟩
      intro G' H' c' fc' kp tp lg r' nd' s'
      obtain ⟨fp', w1, w2, w3⟩ := back (fun q hq => kp q (List.mem_cons_of_mem _ hq)) tp lg r' nd' fun q hq hm => s' q hq (List.mem_cons_of_mem _ hm)
      rw [set_same q3] at w1
      have hpn : p ∉ fc := fun z => nd.1 (sub p z)
      have hpn' : p ∉ fc' := fun z => hpn (s' p z List.mem_cons_self)
      refine ⟨p :: fp', ?_, ?_, fun q hq => ?_⟩
      · refine .dck (kp p List.mem_cons_self hpn _ h1) z (by rw [dput_keys q5]; exact e) ndk ?_
        have : (dput es (keyD k) c').map (·.2) = (es.map (·.2)).set j c' := by
          unfold dput
          rw [if_pos q5]
          exact map_set_sndD kq_key e ndk q6
        rw [this]
        exact w1
      · rw [List.nodup_cons]
        refine ⟨fun z => ?_, w2⟩
        rcases w3 p z with z | ⟨z, _⟩
        · exact hpn' z
        · exact nd.1 z
      · rcases List.mem_cons.mp hq with z | hq
        · subst z; exact .inr ⟨List.mem_cons_self, hpn⟩
        · rcases w3 q hq with z | ⟨z, z'⟩
          · exact .inl z
          · exact .inr ⟨List.mem_cons_of_mem _ z, z'⟩
  | dct h1 z e nd r =>
    obtain ⟨x, e1, e2⟩ := Option.map_eq_some_iff.mp h
    exact (dlook_t e e1).elim
  | ins h1 z e nd r =>
    obtain ⟨x, e1, e2⟩ := Option.map_eq_some_iff.mp h
    exact (dlook_o e e1).elim
theorem fset_map {es : List (D × D)} {j : Nat} {q : D × D} (h : es[j]? = some q) (c : D) : (es.set j (((es[j]?).getD (.none, .none)).1, c)).map (·.1) = es.map (·.1) ∧ (es.set j (((es[j]?).getD (.none, .none)).1, c)).map (·.2) = (es.map (·.2)).set j c := by
  rw [h]
  refine ⟨?_, by rw [List.map_set]⟩
  rw [List.map_set]
  exact set_same (by rw [List.getElem?_map, h]; rfl)
theorem fchild_own {j : Nat} {f : Str} (r : RepO K G H (At H) n v d fp) (nd : fp.Nodup) (h : Sq.fchild n d j f = some (m + 1, c)) :
    ∃ u fc, StepP K H v (.fld j f) u ∧ RepO K G H (At H) (m + 1) u c fc ∧ fc.Nodup ∧ (∀ p ∈ fc, p ∈ fp) ∧ Back K G H n v fp fc (m + 1) u (fun x => fset d j x) := by
  obtain ⟨x, es, rfl, rfl, e1⟩ := fchild_some h
  generalize hd : PyData.dict (oMark x :: es) = d0 at r
  cases r with
  | leaf l r => subst hd; cases l
  | lst _ _ _ => cases hd
  | dck h1 z e nd r =>
    cases hd
    exact (no_oMark e).elim
  | dct h1 z e nd r => cases hd
  | @ins _ p C dx _ fs _ fp0 h1 z e ndk r =>
    cases hd
    rw [List.nodup_cons] at nd
    obtain ⟨u0, l1, l0, l2, l3⟩ := flds_at e ndk e1 rfl
    obtain ⟨u, fc, ee, r1, sub, ndc, back⟩ := ROs.focus r nd.2 l3
    rw [l2] at ee; cases ee
    refine ⟨u0, fc, ⟨_, _, _, _, rfl, h1, z.cl, z.na _ l0, l1⟩, r1, ndc, fun q hq => List.mem_cons_of_mem _ (sub q hq), ?_⟩
    intro G' H' c' fc' kp tp lg r' nd' s'
    obtain ⟨fp', w1, w2, w3⟩ := back (fun q hq => kp q (List.mem_cons_of_mem _ hq)) tp lg r' nd' fun q hq hm => s' q hq (List.mem_cons_of_mem _ hm)
    rw [set_same l2] at w1
    have hpn : p ∉ fc := fun z => nd.1 (sub p z)
    have hpn' : p ∉ fc' := fun z => hpn (s' p z List.mem_cons_self)
    obtain ⟨m1, m2⟩ := fset_map e1 c'
    refine ⟨p :: fp', ?_, ?_, fun q hq => ?_⟩
    · refine .ins (kp p List.mem_cons_self hpn _ h1) z (m1.trans e) ndk ?_
      rw [m2]
      exact w1
    · rw [List.nodup_cons]
      refine ⟨fun z => ?_, w2⟩
      rcases w3 p z with z | ⟨z, _⟩
      · exact hpn' z
      · exact nd.1 z
    · rcases List.mem_cons.mp hq with z | hq
      · subst z; exact .inr ⟨List.mem_cons_self, hpn⟩
      · rcases w3 q hq with z | ⟨z, z'⟩
        · exact .inl z
        · exact .inr ⟨List.mem_cons_of_mem _ z, z'⟩
theorem pchild_own {k : Pk} (r : RepO K G H (At H) n v d fp) (nd : fp.Nodup) (h : Sq.pchild n d k = some (m + 1, c)) :
    ∃ u fc, StepP K H v k u ∧ RepO K G H (At H) (m + 1) u c fc ∧ fc.Nodup ∧ (∀ p ∈ fc, p ∈ fp) ∧ Back K G H n v fp fc (m + 1) u (fun x => pset d k x) := by
  cases k with
  | key k => exact child_own r nd h rfl
  | fld j f => exact fchild_own r nd h
theorem child_n {n m : Nat} {d c : D} {k : Key} (h : child n d k = some (m, c)) : ∀ n', ∃ m', child n' d k = some (m', c) := by
  intro n'
  unfold child at h ⊢
  split at h
  · obtain ⟨x, e, e2⟩ := Option.map_eq_some_iff.mp h
    cases e2
    exact ⟨n' - 1, by simp [e]⟩
  · obtain ⟨x, e, e2⟩ := Option.map_eq_some_iff.mp h
    cases e2
    exact ⟨n' - 1, by simp [e]⟩
  · obtain ⟨x, e, e2⟩ := Option.map_eq_some_iff.mp h
    cases e2
    exact ⟨0, by simp [e]⟩
  · cases h
theorem pchild_n {n m : Nat} {d c : D} {k : Pk} (h : pchild n d k = some (m, c)) : ∃ m', pchild 1 d k = some (m', c) := by
  cases k with
  | key k => exact child_n h 1
  | fld j g =>
    obtain ⟨x, es, rfl, rfl, e1⟩ := fchild_some h
    refine ⟨0, ?_⟩
    show (es[j]?).bind _ = _
    rw [e1]
    simp [isFk_self]
theorem dpath_pos {ks : List Pk} : ∀ {n : Nat} {d : D}, dpath n d ks = some (m + 1, c) → ∀ {k0 ks0}, ks = k0 :: ks0 → ∃ n1 d1, pchild n d k0 = some (n1 + 1, d1) ∧ dpath (n1 + 1) d1 ks0 = some (m + 1, c) := by
  have low : ∀ (ks : List Pk) {d : D}, dpath 0 d ks = some (m + 1, c) → False := by
    intro ks
    induction ks with
    | nil => intro d h; cases h
    | cons k ks ih =>
      intro d h
      obtain ⟨⟨n1, d1⟩, h1, h2⟩ := Option.bind_eq_some_iff.mp h
      have : n1 = 0 := by
        cases k with
        | fld j g => cases h1
        | key k =>
        change child 0 d k = some (n1, d1) at h1
        unfold child at h1
        split at h1 <;> first | (obtain ⟨x, e, e2⟩ := Option.map_eq_some_iff.mp h1; cases e2; rfl) | cases h1
      subst this
      exact ih h2
  intro n d h k0 ks0 e
  subst e
  obtain ⟨⟨n1, d1⟩, h1, h2⟩ := Option.bind_eq_some_iff.mp h
  cases n1 with
  | zero => exact (low _ h2).elim
  | succ n1 => exact ⟨n1, d1, h1, h2⟩
theorem path_own : ∀ {ks : List Pk} {n : Nat} {v : V} {d : D} {fp : List Addr}, RepO K G H (At H) n v d fp → fp.Nodup → dpath n d ks = some (m + 1, c) →
    ∃ u fc, PV K H v ks u ∧ RepO K G H (At H) (m + 1) u c fc ∧ fc.Nodup ∧ (∀ p ∈ fc, p ∈ fp) ∧ Back K G H n v fp fc (m + 1) u (dset d ks)
  | [], n, v, d, fp, r, nd, h => by
    cases h
    exact ⟨v, fp, .nil, r, nd, fun p h => h, fun {G' H' c' fc'} _ _ _ r' nd' _ => ⟨fc', r', nd', fun p hp => .inl hp⟩⟩
  | k :: ks, n, v, d, fp, r, nd, h => by
    obtain ⟨n1, d1, h1, h2⟩ := dpath_pos h rfl
    obtain ⟨u, fc, s, r1, ndc, sub, back⟩ := pchild_own r nd h1
    obtain ⟨w, fd, p2, r2, ndd, sub2, back2⟩ := path_own r1 ndc h2
    refine ⟨w, fd, .cons s p2, r2, ndd, fun p hp => sub p (sub2 p hp), ?_⟩
    intro G' H' c' fc' kp tp lg r' nd' s'
    obtain ⟨fc1, a1, a2, a3⟩ := back2 (fun p hp hn => kp p (sub p hp) hn) tp lg r' nd' fun p hp hm => s' p hp (sub p hm)
    obtain ⟨fp1, b1, b2, b3⟩ := back (fun p hp hn => kp p hp fun z => hn (sub2 p z)) tp lg a1 a2 fun p hp hm => by
      rcases a3 p hp with z | z
      · exact sub2 p (s' p z hm)
      · exact z.1
    refine ⟨fp1, ?_, b2, fun p hp => ?_⟩
    · obtain ⟨m', e⟩ := pchild_n h1
      simp only [dset, e]
      exact b1
    · rcases b3 p hp with z | ⟨z1, z2⟩
      · rcases a3 p z with z | ⟨z1, z2⟩
        · exact .inl z
        · exact .inr ⟨sub p z1, z2⟩
      · exact .inr ⟨z1, fun z => z2 (sub2 p z)⟩
end
end Sq
/-! Sq11: places read; many stores at once -/
namespace Sq
open PySem PySem.Spec PyProof.Rows L2
/-! ### places -/
inductive Kx where
  | c (k : Key)
  | v (j : Nat)
  | add (x y : Kx)
  | sub (x y : Kx)
  | it (j : Nat) (n : Int)
def keyCh : Option Slot → Int → Option Key
  | some (some (.own m, d)), n => (child m d (.inl n)).bind fun c => isKey c.2
  | _, _ => none
def keyOp (g : Int → Int → Int) : Option Key → Option Key → Option Key
  | some (.inl i), some (.inl j) => some (.inl (g i j))
  | _, _ => none
theorem keyOp_some {g : Int → Int → Int} {a b : Option Key} {k : Key} (h : keyOp g a b = some k) : ∃ i j, a = some (.inl i) ∧ b = some (.inl j) ∧ k = .inl (g i j) := by
  unfold keyOp at h
  split at h
  · cases h; exact ⟨_, _, rfl, rfl, rfl⟩
  · cases h
inductive Bx where
  | s (i : Nat)
  | k (b : Bx) (x : Kx)
  /-- the j-th field, by its name -/
  | f (b : Bx) (j : Nat) (g : Str)
def Bx.slot : Bx → Nat
  | .s i => i
  | .k b _ => b.slot
  | .f b _ _ => b.slot
def Kx.key (env : En) : Kx → Option Key
  | .c k => some k
  | .v j => match env[j]? with
    | some (some (.own _, d)) => isKey d
    | _ => none
  | .add x y => keyOp (· + ·) (x.key env) (y.key env)
  | .sub x y => keyOp (· - ·) (x.key env) (y.key env)
  | .it j n => keyCh env[j]? n
def Bx.keys (env : En) : Bx → Option (List Pk)
  | .s _ => some []
  | .k b x => (b.keys env).bind fun ks => (x.key env).map fun k => ks ++ [.key k]
  | .f b j g => (b.keys env).map fun ks => ks ++ [.fld j g]
def tSub (K : Frag) (td tk : TE) : TE := fun σ H Q => td σ H fun x H1 => tk σ H1 fun y H2 => ∃ u, StepV K H2 x y u ∧ Q u H2
def tKx (K : Frag) : Kx → TE
  | .c k => tC (kV k)
  | .v j => tVar j
  | .add x y => tOp (rI0 fun i j => .int (i + j)) (tKx K x) (tKx K y)
  | .sub x y => tOp (rI0 fun i j => .int (i - j)) (tKx K x) (tKx K y)
  | .it j n => tSub K (tVar j) (tC (kV (.inl n)))
/-- an object's field; that it is plain is known of the class -/
def tFl (K : Frag) (td : TE) (g : Str) : TE := fun σ H Q => td σ H fun v H1 => ∃ u, StepP K H1 v (.fld 0 g) u ∧ Q u H1
def tBx (K : Frag) : Bx → TE
  | .s i => tVar i
  | .k b x => tSub K (tBx K b) (tKx K x)
  | .f b _ g => tFl K (tBx K b) g
theorem ix_dict {X : Cx} (hu : X.A.units + 1 < cLine) : IxR X (fun x y H Q => ∃ a v, x = .ref a ∧ DGet H a y (some v) ∧ Q v H) := by
  intro value slice pins s σ H x y v u Q I rx ry h hs
  obtain ⟨a, r, rfl, g, q⟩ := h
  obtain rfl : v = Value.ref a := rx
  exact tail_any (dict_typeIs I g) slot_dict_getitem.lookup (d_getItem hu I g ry fun w' s' I' rw' => ⟨r, H, I', rw', q⟩) hs
theorem snd_bs {X : Cx} {e : Expr} {i : Nat} (h : PE X e (tVar i)) : PE X e (tBx X.K (.s i)) := h
theorem snd_bk {X : Cx} {e ix : Expr} {pos : Pos} {b : Bx} {x : Kx} (hu : X.A.units + 1 < cLine) (h : PE X e (tBx X.K b)) (hx : PE X ix (tKx X.K x)) (hs : PlainIx ix) : PE X (.Subscript e ix pos) (tBx X.K (.k b x)) := by
  refine pe_imp (pe_ix ((ix_dict hu).or (ix_list.or ix_tup)) h hx hs) fun σ H Q q => ?_
  have key : ∀ (x : Kx) {σ : L2.St} {H : Hp} {Q Q' : VK}, (∀ v H, Q v H → Q' v H) → tKx X.K x σ H Q → tKx X.K x σ H Q' := by
    intro x
    induction x with
    | c kk => exact fun k h => k _ _ h
    | v j => exact fun k ⟨w, e, h⟩ => ⟨w, e, k _ _ h⟩
    | add x y ihx ihy => exact fun k h => ihx (fun _ _ h1 => ihy (fun _ _ ⟨i, j, e1, e2, q⟩ => ⟨i, j, e1, e2, k _ _ q⟩) h1) h
    | sub x y ihx ihy => exact fun k h => ihx (fun _ _ h1 => ihy (fun _ _ ⟨i, j, e1, e2, q⟩ => ⟨i, j, e1, e2, k _ _ q⟩) h1) h
    | it j n => exact fun k ⟨v, e, u, s, q⟩ => ⟨v, e, u, s, k _ _ q⟩
  have mono : ∀ (b : Bx) {σ : L2.St} {H : Hp} {Q Q' : VK}, (∀ v H, Q v H → Q' v H) → tBx X.K b σ H Q → tBx X.K b σ H Q' := by
    intro b
    induction b with
    | f b j g ih => exact fun k h => ih (fun v H1 ⟨u, s, q⟩ => ⟨u, s, k _ _ q⟩) h
    | s i => exact fun k ⟨v, e, q⟩ => ⟨v, e, k _ _ q⟩
    | k b x ih =>
      intro σ H Q Q' k h
      exact ih (fun v H1 h1 => key x (fun y H2 ⟨u, s, q⟩ => ⟨u, s, k _ _ q⟩) h1) h
  refine mono b (fun v H1 h1 => key x (fun y H2 h2 => ?_) h1) q
  obtain ⟨u, s, q⟩ := h2
  rcases s with ⟨a, e1, g⟩ | ⟨a, vs, i, e1, e2, hq, e3⟩
  · exact .inl ⟨a, u, e1, g, q⟩
  · rcases hq with hq | hq
    · exact .inr (.inl ⟨a, vs, i, u, e1, e2, hq, e3, q⟩)
    · exact .inr (.inr ⟨a, vs, i, u, e1, e2, hq, e3, q⟩)
theorem PV.snoc {K : Frag} {H : Hp} {k : Pk} : ∀ {ks : List Pk} {v w : V}, PV K H v (ks ++ [k]) w → ∃ u, PV K H v ks u ∧ StepP K H u k w
  | [], v, w, .cons s .nil => ⟨v, .nil, s⟩
  | _ :: ks, v, w, .cons s p => by
    obtain ⟨u, p, s2⟩ := PV.snoc p
    exact ⟨u, .cons s p, s2⟩
theorem key_val {K : Frag} {G H : Hp} {L : Addr → Prop} {σ : L2.St} {env : En} {f : Fps} (s : SR K G H L σ env f) : ∀ {x : Kx} {k : Key} {Q : VK}, x.key env = some k → Q (kV k) H → tKx K x σ H Q
  | .c k', k, Q, h, q => by cases h; exact q
  | .v j, k, Q, h, q => by
    change (match env[j]? with
      | some (some (.own _, d)) => isKey d
      | _ => none) = some k at h
    split at h
    · rename_i n d e
      obtain ⟨v, e1, r⟩ := s.slot j _ _ e
      have hl : isLeaf d = true := by cases d <;> first | rfl | cases h
      have := isKey_rep (RepX.f hl (RepO.x r)) h
      subst this
      exact ⟨_, e1, q⟩
    · cases h
  | .add x y, k, Q, h, q => by
    obtain ⟨i, j, e1, e2, rfl⟩ := keyOp_some h
    show tKx K x σ H _
    refine key_val s e1 ?_
    show tKx K y σ H _
    exact key_val s e2 ⟨i, j, rfl, rfl, q⟩
  | .sub x y, k, Q, h, q => by
    obtain ⟨i, j, e1, e2, rfl⟩ := keyOp_some h
    show tKx K x σ H _
    refine key_val s e1 ?_
    show tKx K y σ H _
    exact key_val s e2 ⟨i, j, rfl, rfl, q⟩
  | .it j n, k, Q, h, q => by
    change keyCh env[j]? n = some k at h
    unfold keyCh at h
    split at h
    · rename_i m d _ e
      obtain ⟨v, e1, r⟩ := s.slot j _ _ e
      obtain ⟨c, hc, hk⟩ := Option.bind_eq_some_iff.mp h
      obtain ⟨u, st, x⟩ := (RepO.x r).child s.gh hc
      have hl : isLeaf c.2 = true := by revert hk; cases c.2 <;> first | exact fun _ => rfl | exact fun h => nomatch h
      have eu := isKey_rep (RepX.f hl x) hk
      subst eu
      exact ⟨v, e1, _, st, q⟩
    · cases h
theorem place_val {K : Frag} {G H : Hp} {L : Addr → Prop} {σ : L2.St} {env : En} {f : Fps} (s : SR K G H L σ env f) {v : V} : ∀ {b : Bx} {ks : List Pk} {w : V} {Q : VK}, b.keys env = some ks → σ[b.slot]? = some (some v) → PV K H v ks w → Q w H → tBx K b σ H Q
  | .s i, ks, w, Q, h, e, p, q => by
    cases h
    cases p
    exact ⟨v, e, q⟩
  | .k b x, ks, w, Q, h, e, p, q => by
    obtain ⟨ks', h1, h2⟩ := Option.bind_eq_some_iff.mp h
    obtain ⟨k, h3, h4⟩ := Option.map_eq_some_iff.mp h2
    subst h4
    obtain ⟨u, p1, st⟩ := p.snoc
    exact place_val s (b := b) h1 e p1 (key_val s h3 ⟨w, st, q⟩)
  | .f b j g, ks, w, Q, h, e, p, q => by
    obtain ⟨ks', h1, h4⟩ := Option.map_eq_some_iff.mp h
    subst h4
    obtain ⟨u, p1, st⟩ := p.snoc
    exact place_val s (b := b) h1 e p1 ⟨w, st, q⟩
section
variable {X : Cx} {e : Expr} {pos : Pos} {b : Bx}
def wAt (b : Bx) (r : Nat → D → Prop) : En → Prop := fun env => fetch env (.sl b.slot) fun n d => ∃ ks m c, b.keys env = some ks ∧ dpath n d ks = some (m, c) ∧ r m c
theorem at_x {K : Frag} {G H : Hp} {L : Addr → Prop} {σ : L2.St} {env : En} {f : Fps} {r : Nat → D → Prop} {Q : VK} (s : SR K G H L σ env f) (h : wAt b r env) (k : ∀ m c u, RepX K G H m u c → r m c → Q u H) : tBx K b σ H Q := by
  have go : ∀ {n : Nat} {d : D} {v : V}, σ[b.slot]? = some (some v) → RepX K G H n v d → (∃ ks m c, b.keys env = some ks ∧ dpath n d ks = some (m, c) ∧ r m c) → tBx K b σ H Q := by
    rintro n d v e x ⟨ks, m, c, h1, h2, h3⟩
    obtain ⟨u, p, y⟩ := x.path s.gh h2
    exact place_val s h1 e p (k m c u y h3)
  rcases h with ⟨n, d, h1, h2⟩ | ⟨n, d, h1, h2⟩
  · obtain ⟨v', e', r'⟩ := s.slot _ _ _ h1
    exact go e' (RepO.x r') h2
  · obtain ⟨v', e', _, fq, r', _⟩ := s.slot _ _ _ h1
    exact go e' ⟨fq, r'⟩ h2
/-- a plain thing at a place -/
def wPl (b : Bx) : WE := fun env Q => wAt b (fun m c => (m = 0 ∨ isLeaf c = true) ∧ Q 0 c env) env
theorem RepX.pl {K : Frag} {G H : Hp} {m : Nat} {u : V} {c : D} (x : RepX K G H m u c) (h : m = 0 ∨ isLeaf c = true) : RepF K G H u c := by
  rcases h with h | h
  · subst h
    obtain ⟨_, x⟩ := x
    exact (RepO.plain x).1
  · exact x.f h
theorem snd_pl (h : PE X e (tBx X.K b)) : PE X e (rdE X.K (wPl b)) := pe_imp h fun σ H Q ⟨G, L, env, f, P, s, w, q⟩ =>
  at_x s w fun m c u x ⟨hl, p⟩ => q 0 c env p u G H f [] (.refl s) (.frz (x.pl hl))
/-- a built-in of what stands at a place -/
def wUn (w : OW) (b : Bx) : WE := fun env Q => wAt b (fun m c => w [(m, c)] fun k z => Q k z env) env
theorem un_rd {w : OW} {r : List V → Hp → VK → Prop} {σ : L2.St} {H : Hp} {Q : VK}
    (k : ∀ (G H : Hp) (xs : List XD) (vs : List V) (P : Nat → D → Prop) (Q : VK), GH G H → RepXs X.K G H xs vs → w xs P → (∀ k z v' H', P k z → Res X.K G H k z v' H' → Q v' H') → r vs H Q)
    (h : rdE X.K (wUn w b) σ H Q) : tCons (tBx X.K b) tNil σ H fun vs H1 => r vs H1 Q := by
  obtain ⟨G, L, env, f, P, s, h, q⟩ := h
  refine at_x s h fun m c u x h1 => ?_
  refine k G H _ _ _ _ s.gh (.cons x .nil) h1 fun j z v' H' p res => ?_
  obtain ⟨fv, post, ro⟩ := Res.post s res
  exact q j z env p v' G H' f fv post ro
theorem snd_unB {w : OW} {x : Str} {id : String} {p : Pos} (ho : CallS X (.builtin id) w) (hg : Gl X x) (hm : X.mg x = none) (hv : bootBuiltins x = some (.builtin id)) (hn : x ≠ "__name__") (hdb : (x == ("__debug__" : Str)) = false)
    (he : PE X e (tBx X.K b)) (hs : starEach [e] X.env = (false, eval e X.env) :: starEach [] X.env) (hpl : (backTo pos (starEach [] X.env)).any (·.1) = false) : PE X (.Call (.Name x p) [e] [] pos) (rdE X.K (wUn w b)) := by
  obtain ⟨r, hr, k⟩ := ho
  exact pe_imp (pe_callB hr hg hm hv (pa_cons he pa_nil hs) hn hdb hs hpl) fun σ H Q h => un_rd k h
end
/-! ### stores from a row of temporaries -/
theorem Post.putL {K : Frag} {G0 H0 G H : Hp} {L : Addr → Prop} {σ : L2.St} {F : Addr → Prop} {f : Fps} {env : En} {fa fb : List Addr} {n i : Nat} {v : V} {d : D} (a : Post K G0 H0 L σ F G H env f (fa ++ fb)) (r : RepO K G H (At H) n v d fa) (hi : i < env.length) :
    Post K G0 H0 L (σ.set i (some v)) F G H (env.set i (some (.own n, d))) (fun j => if j = i then fa else f j) fb := by
  have s := a.sr
  have and' := List.nodup_append.mp a.nd
  have p := (a.drop (fv2 := fa) (fun p h => List.mem_append_left _ h) and'.1).put r hi
  have mem : ∀ {p}, Owns (fun j => if j = i then fa else f j) p → Owns f p ∨ p ∈ fa := fun {p} ⟨j, h⟩ => by
    by_cases hj : j = i
    · simp only [if_pos hj] at h; exact .inr h
    · simp only [if_neg hj] at h; exact .inl ⟨j, h⟩
  refine ⟨p.stp, p.sr, and'.2.1, fun q hq z => ?_, fun q hq => a.gf q (List.mem_append_right _ hq), fun q hq => a.al q (List.mem_append_right _ hq), fun q hq => ?_, fun q hq => a.nl q (List.mem_append_right _ hq)⟩
  · rcases mem z with z | z
    · exact a.dj q (List.mem_append_right _ hq) z
    · exact and'.2.2 q z q hq rfl
  · rcases hq with hq | hq
    · exact p.dom q (.inl hq)
    · exact a.dom q (.inr (List.mem_append_right _ hq))
def setAll : L2.St → List Nat → List V → L2.St
  | σ, i :: is, v :: vs => setAll (σ.set i (some v)) is vs
  | σ, _, _ => σ
def setE : En → List Nat → List (Nat × D) → En
  | e, i :: is, x :: xs => setE (e.set i (some (.own x.1, x.2))) is xs
  | e, _, _ => e
def tmpsN : List Opd → Option (List (Nat × D))
  | [] => some []
  | .tmp n d :: os => (tmpsN os).map ((n, d) :: ·)
  | _ => none
theorem Post.putAll {K : Frag} {G0 H0 G H : Hp} {L : Addr → Prop} {F : Addr → Prop} {σ0 : L2.St} {A : Nat → Prop} : ∀ {os : List Opd} {vs : List V} {xs : List (Nat × D)} {is : List Nat} {fv : List Addr} {σ : L2.St} {f : Fps} {env : En}, OpdsR K G H σ0 os vs fv → tmpsN os = some xs →
    Post K G0 H0 L σ F G H env f fv → (∀ i ∈ is, i < env.length ∧ A i) → xs.length = is.length → ∃ f', Post K G0 H0 L (setAll σ is vs) F G H (setE env is xs) f' [] ∧ Kp A σ (setAll σ is vs) ∧ vs.length = is.length
  | [], _, xs, is, _, σ, f, env, .nil, h, p, hi, hl => by
    cases h
    cases is with
    | nil => exact ⟨f, p, .refl _, rfl⟩
    | cons => simp at hl
  | .tmp n d :: os, _, xs, is, _, σ, f, env, .cons (vs := vs) (v := v) r rs, h, p, hi, hl => by
    obtain ⟨ys, h1, rfl⟩ := Option.map_eq_some_iff.mp h
    cases is with
    | nil => simp at hl
    | cons i is =>
      have hi0 := hi i List.mem_cons_self
      obtain ⟨f', p', k', l'⟩ := Post.putAll rs h1 (p.putL r hi0.1) (fun j hj => by rw [List.length_set]; exact hi j (List.mem_cons_of_mem _ hj)) (by simpa using hl)
      exact ⟨f', p', (Kp.set σ (some v) hi0.2).trans k', by simp [l']⟩
  | .sl _ :: os, _, xs, is, _, σ, f, env, .cons _ _, h, _, _, _ => by cases h
/-- a, b, .. = x, y, .. -/
def wPar (is : List Nat) (wa : WA) : WS := fun env P => wa env fun os e1 => ∃ xs, tmpsN os = some xs ∧ xs.length = is.length ∧ (∀ i ∈ is, i < e1.length) ∧ P.nx (setE e1 is xs)
section
variable {X : Cx} {A : Nat → Prop} {S : AS} {pos : Pos}
theorem par_rd {is : List Nat} {wa : WA} {De : Ends} {σ : L2.St} {H : Hp} {st : Stmt} (ha : ∀ i ∈ is, S.a i) (h : rdS X.K S (wPar is wa) De σ H) : rdA X.K wa σ H fun vs H1 => vs.length = is.length ∧ ∀ H2, Le H1 H2 → De.nx (setAll σ is vs) H2 := by
  obtain ⟨G, L, env, f, P, s, h, hn, _⟩ := h
  refine ⟨G, L, env, f, _, s, h, fun os e1 ⟨xs, h1, h2, h3, h4⟩ vs G1 H1 f1 fv p r => ?_⟩
  obtain ⟨f', p', k', l'⟩ := Post.putAll r h1 p (fun i hi => ⟨h3 i hi, ha i hi⟩) h2
  refine ⟨l', fun H2 le => ?_⟩
  have p2 : Post X.K G1 H1 L (setAll σ is vs) (Owns f') G1 H2 (setE e1 is xs) f' [] := Post.of_le p'.sr le List.nodup_nil (fun _ h => absurd h (by simp)) fun _ h => absurd h (by simp)
  exact hn _ h4 _ G1 H2 f' (by simpa using p'.seq p2) k'
theorem snd_par2 {i j : Nat} {x y : Str} {a b : Expr} {wa : WA} {px py pt : Pos} {kt k2 pt2} (hc : X.calm = true) (hN : X.N.Nodup) (hi : X.N[i]? = some x) (hj : X.N[j]? = some y) (hij : i ≠ j)
    (hx : X.env.scope.names.lookup x = some .local) (hy : X.env.scope.names.lookup y = some .local) (hA : S.a i ∧ S.a j) (ha : PA X [a, b] (rdA X.K wa))
    (hw : swappedStores [.Tuple [.Name x px, .Name y py] kt pt] (.Tuple [a, b] k2 pt2) X.env = pure (some [x, y]))
    (hs : swapsWithSole [.Tuple [.Name x px, .Name y py] kt pt] (.Tuple [a, b] k2 pt2) pos.line X.env = pure false) :
    PS X (.Assign [.Tuple [.Name x px, .Name y py] kt pt] (.Tuple [a, b] k2 pt2) pos) (rdS X.K S (wPar [i, j] wa)) := by
  refine ps_imp (ps_par hc hN hi hj hij hx hy ha hw hs) fun De σ H h => ?_
  have q := par_rd (st := .Pass pos) (fun k hk => by simp at hk; rcases hk with rfl | rfl; exact hA.1; exact hA.2) h
  obtain ⟨G, L, env, f, P, s, h, q⟩ := q
  refine ⟨G, L, env, f, P, s, h, fun os e1 h1 vs G1 H1 f1 fv p r => ?_⟩
  obtain ⟨l, q⟩ := q os e1 h1 vs G1 H1 f1 fv p r
  match vs, l with
  | [v, w], _ => exact ⟨v, w, rfl, q H1 fun _ _ e => e⟩
theorem snd_par3 {i j l : Nat} {x y z : Str} {a b c : Expr} {wa : WA} {px py pz pt : Pos} {kt k2 pt2} (hc : X.calm = true) (hN : X.N.Nodup) (hi : X.N[i]? = some x) (hj : X.N[j]? = some y) (hl : X.N[l]? = some z) (hij : i ≠ j) (hil : i ≠ l) (hjl : j ≠ l)
    (hx : X.env.scope.names.lookup x = some .local) (hy : X.env.scope.names.lookup y = some .local) (hz : X.env.scope.names.lookup z = some .local) (hA : S.a i ∧ S.a j ∧ S.a l) (ha : PA X [a, b, c] (rdA X.K wa))
    (hw : swappedStores [.Tuple [.Name x px, .Name y py, .Name z pz] kt pt] (.Tuple [a, b, c] k2 pt2) X.env = pure (some [x, y, z]))
    (hs : swapsWithSole [.Tuple [.Name x px, .Name y py, .Name z pz] kt pt] (.Tuple [a, b, c] k2 pt2) pos.line X.env = pure false) :
    PS X (.Assign [.Tuple [.Name x px, .Name y py, .Name z pz] kt pt] (.Tuple [a, b, c] k2 pt2) pos) (rdS X.K S (wPar [i, j, l] wa)) := by
  refine ps_imp (ps_par3 hc hN hi hj hl hij hil hjl hx hy hz ha hw hs) fun De σ H h => ?_
  have q := par_rd (st := .Pass pos) (fun k hk => by simp at hk; rcases hk with rfl | rfl | rfl; exact hA.1; exact hA.2.1; exact hA.2.2) h
  obtain ⟨G, L, env, f, P, s, h, q⟩ := q
  refine ⟨G, L, env, f, P, s, h, fun os e1 h1 vs G1 H1 f1 fv p r => ?_⟩
  obtain ⟨l, q⟩ := q os e1 h1 vs G1 H1 f1 fv p r
  match vs, l with
  | [v, w, u], _ => exact ⟨v, w, u, rfl, q H1 fun _ _ e => e⟩
/-- names as targets -/
inductive PNs (X : Cx) (A : Nat → Prop) : List Expr → List Nat → Prop
  | nil : PNs X A [] []
  | cons {i : Nat} {x : Str} {p : Pos} {es : List Expr} {is : List Nat} : X.N[i]? = some x → Loc X.env.scope x → (X.fn x = true ∨ X.env.scope.names.lookup x = some .local) → A i → (assignEach (.Name x p :: es) X.env).map (·.2) = assign (.Name x p) X.env :: (assignEach es X.env).map (·.2) → PNs X A es is → PNs X A (.Name x p :: es) (i :: is)
theorem PNs.all {es : List Expr} {is : List Nat} : PNs X A es is → ∀ i ∈ is, A i
  | .nil, _, h => by simp at h
  | .cons _ _ _ ha _ r, i, h => by
    rcases List.mem_cons.mp h with e | h
    · subst e; exact ha
    · exact r.all i h
end
end Sq
/-! Sq12: writing at a place -/
namespace Sq
open PySem PySem.Spec PyProof.Rows L2
section
variable {K : Frag} {G H G1 H1 H2 G0 H0 : Hp} {L : Addr → Prop} {σ : L2.St} {env e1 : En} {f f1 : Fps} {F : Addr → Prop} {fv fvA fv2 fp' : List Addr}
/-- what is held is changed -/
theorem Post.mutH (a : Post K G0 H0 L σ F G1 H1 e1 f1 fvA) (kp : ∀ p o, H1 p = some o → p ∉ fvA → H2 p = some o) (dm : ∀ p, H2 p = none → H1 p = none) (mu : ∀ p ∈ fvA, ∃ o, H1 p = some o ∧ Mutb o)
    (nd : fv2.Nodup) (sub : ∀ p ∈ fv2, p ∈ fvA) : Post K G0 H0 L σ F G1 H2 e1 f1 fv2 := by
  have s := a.sr
  have tp : Tups H1 H2 := by
    intro p xs h
    have nf : ∀ o, H1 p = some o → ¬ Mutb o → p ∉ fvA := fun o e n k => by
      obtain ⟨o', e', m⟩ := mu p k
      rw [e] at e'; cases e'
      exact n m
    rcases h with h | ⟨o, h⟩
    · exact .inl (kp p _ h (nf _ h (by rintro (⟨_, q⟩ | ⟨_, q⟩ | ⟨_, q⟩ | ⟨_, q⟩) <;> cases q)))
    · exact .inr ⟨o, kp p _ h (nf _ h (by rintro (⟨_, q⟩ | ⟨_, q⟩ | ⟨_, q⟩ | ⟨_, q⟩) <;> cases q))⟩
  have rd : ∀ p o, p ∉ fvA → Rd H1 p o → Rd H2 p o := fun p o n h => by
    rcases h with h | ⟨q, h⟩
    · exact .inl (kp p _ h n)
    · exact .inr ⟨q, kp p _ h n⟩
  refine ⟨⟨fun p o e n => ?_, fun p e => a.stp.dom p (dm p e), a.stp.gm, a.stp.gn⟩, ⟨s.len, fun i m d e => ?_, s.own, s.nd, s.dj, fun p o e => ?_, s.gf, fun p l => ?_, s.lf⟩, nd, fun p hp => a.dj p (sub p hp), fun p hp => a.gf p (sub p hp), fun p hp => ?_, fun p hp => a.dom p (hp.imp id (sub p)), fun p hp => a.nl p (sub p hp)⟩
  · refine kp p o (a.stp.keep p o e n) fun hm => ?_
    rcases a.dom p (.inr hm) with z | z
    · exact n z
    · rw [z] at e; cases e
  · obtain ⟨v, e1', r⟩ := s.slot i m d e
    refine ⟨v, e1', ?_⟩
    cases m with
    | own n => 
      have nh : ∀ p ∈ f1 i, p ∉ fvA := fun p hp hm => a.dj p hm ⟨i, hp⟩
      exact RepO.mono tp (Le.refl _) r (fun p hp o e => kp p o e (nh p hp)) fun p hp o e => kp p o e (nh p hp)
    | lok n =>
      obtain ⟨e0, fq, r, l⟩ := r
      have nh : ∀ p ∈ fq, p ∉ fvA := fun p hp hm => a.nl p hm (l p hp)
      exact ⟨e0, fq, RepO.mono tp (Le.refl _) r (fun p hp o e => rd p o (nh p hp) e) (fun p hp o e => kp p o e (nh p hp)), l⟩
  · exact rd p o (fun hm => by rw [a.gf p hm] at e; cases e) (s.gh p o e)
  · obtain ⟨o, e⟩ := s.lk p l
    exact ⟨o, kp p o e fun hm => a.nl p hm l⟩
  · cases q : H2 p with
    | some o => exact ⟨o, rfl⟩
    | none =>
      obtain ⟨o, e⟩ := a.al p (sub p hp)
      rw [dm p q] at e; cases e
/-- a slot's own things are held -/
theorem Post.out {n i : Nat} {d : D} (a : Post K G0 H0 L σ F G1 H1 e1 f1 fv) (h : e1[i]? = some (some (.own n, d))) : Post K G0 H0 L σ F G1 H1 (e1.set i none) (fun j => if j = i then [] else f1 j) (f1 i ++ fv) := by
  have s := a.sr
  obtain ⟨v, e2, r⟩ := s.slot i _ _ h
  refine ⟨a.stp, s.out i, ?_, fun p hp z => ?_, fun p hp => ?_, fun p hp => ?_, fun p hp => ?_, fun p hp => ?_⟩
  · rw [List.nodup_append]
    refine ⟨s.nd i, a.nd, fun x hx y hy e => ?_⟩
    subst e
    exact a.dj x hy ⟨i, hx⟩
  · obtain ⟨z0, j, n, h⟩ := z.out
    rcases List.mem_append.mp hp with hp | hp
    · exact s.dj j i p n h hp
    · exact a.dj p hp z0
  · rcases List.mem_append.mp hp with hp | hp
    · exact s.gf i p hp
    · exact a.gf p hp
  · rcases List.mem_append.mp hp with hp | hp
    · obtain ⟨o, e, _⟩ := RepO.mutb r p hp
      exact ⟨o, e⟩
    · exact a.al p hp
  · rcases hp with h | h
    · exact a.dom p (.inl h.out.1)
    · rcases List.mem_append.mp h with h | h
      · exact a.dom p (.inl ⟨i, h⟩)
      · exact a.dom p (.inr h)
  · rcases List.mem_append.mp hp with hp | hp
    · exact s.lf i p hp
    · exact a.nl p hp
/-- written back into its slot -/
theorem Post.wb {v : V} {n i : Nat} {d' : D} (a : Post K G0 H0 L σ F G1 H1 e1 f1 fvA) (kp : ∀ p o, H1 p = some o → p ∉ fvA → H2 p = some o) (dm : ∀ p, H2 p = none → H1 p = none) (mu : ∀ p ∈ fvA, ∃ o, H1 p = some o ∧ Mutb o)
    (nd : (fp' ++ fv2).Nodup) (sub : ∀ p ∈ fp' ++ fv2, p ∈ fvA) (hi : i < e1.length) (r : RepO K G1 H2 (At H2) n v d' fp') (hv : σ[i]? = some (some v)) :
    Post K G0 H0 L σ F G1 H2 (e1.set i (some (.own n, d'))) (fun j => if j = i then fp' else f1 j) fv2 := by
  have q := (a.mutH kp dm mu nd sub).putL r hi
  rw [set_same hv] at q
  exact q
end
/-- what fits into a row of depth m -/
def fit (k m : Nat) (z : D) : Prop := k = m ∨ (k = 0 ∧ isLeaf z = true)
def noMark : List (D × D) → Bool
  | (.none, _) :: _ => false
  | _ => true
def cput : D → Key → D → Option D
  | .dict es, k, z => if noMark es = true ∧ es.length < sizeLine then some (.dict (dput es (keyD k) z)) else none
  | .list xs, .inl i, z => (ixN xs.length i).map fun j => .list (xs.set j z)
  | _, _, _ => none
def tPut : V → V → V → Hp → (Hp → Prop) → Prop := fun o i v H Q => rSetD o i v H Q ∨ rSetL o i v H Q
theorem pset_put {X : Cx} (hu : X.A.units + 1 < cLine) : PSet X tPut := by
  intro pins s σ H o i v ov iv u Q I ro ri rv h
  rcases h with h | h
  · exact set_dict hu pins s σ H o i v ov iv u Q I ro ri rv h
  · exact set_list pins s σ H o i v ov iv u Q I ro ri rv h
section
variable {K : Frag} {G H : Hp} {m : Nat} {u v : V} {c z c' : D} {fc fz : List Addr}
theorem tups_upd {p : Addr} {o o' : HO} (h : H p = some o) (mo : Mutb o) : Tups H (upd H p o') := by
  intro q xs r
  have ne : ∀ o1, H q = some o1 → ¬ Mutb o1 → q ≠ p := fun o1 e n k => by
    subst k
    rw [h] at e; cases e
    exact n mo
  rcases r with r | ⟨x, r⟩
  · exact .inl (by rw [upd_ne (ne _ r (by rintro (⟨_, q⟩ | ⟨_, q⟩ | ⟨_, q⟩ | ⟨_, q⟩) <;> cases q))]; exact r)
  · exact .inr ⟨x, by rw [upd_ne (ne _ r (by rintro (⟨_, q⟩ | ⟨_, q⟩ | ⟨_, q⟩ | ⟨_, q⟩) <;> cases q))]; exact r⟩
theorem upd_kp {p q : Addr} {o o' : HO} (h : H q = some o) (n : q ≠ p) : upd H p o' q = some o := by rw [upd_ne n]; exact h
theorem upd_dm {p q : Addr} {o o' : HO} (h : H p = some o) (e : upd H p o' q = none) : H q = none := by
  by_cases k : q = p
  · subst k; rw [upd_same] at e; cases e
  · rw [upd_ne k] at e; exact e
/-- an object with one thing put -/
theorem obj_put {k : Key} (r : RepO K G H (At H) (m + 1) u c fc) (rz : RepO K G H (At H) m v z fz) (nd : (fc ++ fz).Nodup) (h : cput c k z = some c') :
    ∃ p o o' fc', u = .ref p ∧ H p = some o ∧ Mutb o ∧ p ∈ fc ∧ (∀ Q : Hp → Prop, Q (upd H p o') → tPut u (kV k) v H Q) ∧ RepO K G (upd H p o') (At (upd H p o')) (m + 1) u c' fc' ∧ fc'.Nodup ∧ ∀ q ∈ fc', q ∈ fc ∨ q ∈ fz := by
  obtain ⟨nd1, nd2, nd3⟩ := List.nodup_append.mp nd
  cases r with
  | leaf l r => cases r <;> cases k <;> first | (cases l; done) | cases h
  | @lst _ p vs ds fp h1 hz rs =>
    cases k with
    | inr _ => cases h
    | inl i =>
      obtain ⟨j, e, rfl⟩ := Option.map_eq_some_iff.mp h
      rw [List.nodup_cons] at nd1
      have hj : j < ds.length := (ixN_seq e).1 |> fun _ => by
        have := ixN_seq e
        omega
      have ej : ds[j]? = some ds[j] := List.getElem?_eq_getElem hj
      obtain ⟨_, fj, e1, _, sub, ndj, back⟩ := ROs.focus rs nd1.2 ej
      have tp : Tups H (upd H p (.lst (vs.set j v))) := tups_upd h1 (.inl ⟨_, rfl⟩)
      have npz : p ∉ fz := fun hz => nd3 p List.mem_cons_self p hz rfl
      have nfq : ∀ q ∈ fp, q ≠ p := fun q hq e => by subst e; exact nd1.1 hq
      have nzq : ∀ q ∈ fz, q ≠ p := fun q hq e => by subst e; exact npz hq
      have rz' := rz.mono tp (Le.refl G) (fun q hq o e => upd_kp (o' := .lst (vs.set j v)) e (nzq q hq)) fun q hq o e => upd_kp (o' := .lst (vs.set j v)) e (nzq q hq)
      obtain ⟨fp', q1, q2, q3⟩ := back (fun q hq _ o e => upd_kp (o' := .lst (vs.set j v)) e (nfq q hq)) tp (Le.refl G) rz' nd2 fun q hq hm => (nd3 q (List.mem_cons_of_mem _ hm) q hq rfl).elim
      refine ⟨p, _, .lst (vs.set j v), p :: fp', rfl, h1, .inl ⟨_, rfl⟩, List.mem_cons_self, fun Q hQ => .inr ⟨p, vs, i, j, rfl, rfl, h1, by rw [ROs.length rs]; exact e, hQ⟩, .lst upd_same (by rw [List.length_set]; exact hz) q1, ?_, fun q hq => ?_⟩
      · rw [List.nodup_cons]
        refine ⟨fun hm => ?_, q2⟩
        rcases q3 p hm with z | z
        · exact npz z
        · exact nd1.1 z.1
      · rcases List.mem_cons.mp hq with e | hq
        · subst e; exact .inl List.mem_cons_self
        · rcases q3 q hq with z | z
          · exact .inr z
          · exact .inl (List.mem_cons_of_mem _ z.1)
  | @dck _ p kvs es fp h1 hz e ndk rs =>
    have h' : es.length < sizeLine ∧ c' = .dict (dput es (keyD k) z) := by
      simp only [cput] at h
      split at h
      · rename_i hh; cases h; exact ⟨hh.2, rfl⟩
      · cases h
    obtain ⟨hlen, rfl⟩ := h'
    have hl : kvs.length = es.length := by simpa using (congrArg List.length e).symm
    rw [List.nodup_cons] at nd1
    have npz : p ∉ fz := fun hz => nd3 p List.mem_cons_self p hz rfl
    have tp : Tups H (upd H p (.dK (putK kvs k v))) := tups_upd h1 (.inr (.inl ⟨_, rfl⟩))
    have nfq : ∀ q ∈ fp, q ≠ p := fun q hq e => by subst e; exact nd1.1 hq
    have nzq : ∀ q ∈ fz, q ≠ p := fun q hq e => by subst e; exact npz hq
    have rz' := rz.mono tp (Le.refl G) (fun q hq o e => upd_kp (o' := .dK (putK kvs k v)) e (nzq q hq)) fun q hq o e => upd_kp (o' := .dK (putK kvs k v)) e (nzq q hq)
    have tset : ∀ Q : Hp → Prop, Q (upd H p (.dK (putK kvs k v))) → tPut (.ref p) (kV k) v H Q := fun Q hQ => .inl ⟨p, _, rfl, .k h1 (by omega), hQ⟩
    rcases look_ix kq_key k e with ⟨q1, q2, q3⟩ | ⟨j, hj, ⟨v', d', q1, q2, q3, q4⟩, q5, q6⟩
    · have pk : putK kvs k v = kvs ++ [(k, v)] := by
        unfold putK
        rw [if_neg]
        intro hh
        obtain ⟨kv, hm, hd⟩ := List.any_eq_true.mp hh
        have hd := of_decide_eq_true hd
        have : ∀ (l : List (Key × V)), kv ∈ l → kv.1 = k → valV l k ≠ none := by
          intro l
          induction l with
          | nil => intro h; simp at h
          | cons a r ih =>
            intro h e
            by_cases ha : a.1 = k
            · rw [valV_pos ha]; simp
            · rw [valV_neg ha]
              rcases List.mem_cons.mp h with h | h
              · subst h; exact absurd e ha
              · exact ih h e
        exact this kvs hm hd q1
      have dp : dput es (keyD k) z = es ++ [(keyD k, z)] := by unfold dput; rw [if_neg (by rw [q3]; simp)]
      have nk : k ∉ kvs.map (·.1) := fun hm => by
        obtain ⟨kv, hm, hd⟩ := List.mem_map.mp hm
        have : (es.map (·.1)).any (fun x => kq x (keyD k)) = true := by
          rw [e, List.any_eq_true]
          exact ⟨keyD kv.1, List.mem_map.mpr ⟨kv, hm, rfl⟩, by rw [hd, kq_key]; simp⟩
        rw [List.any_map] at this
        unfold dhas at q3
        have q3' : (es.any ((fun x => kq x (keyD k)) ∘ fun x => x.1)) = false := q3
        rw [q3'] at this; cases this
      refine ⟨p, _, .dK (putK kvs k v), p :: (fp ++ fz), rfl, h1, .inr (.inl ⟨_, rfl⟩), List.mem_cons_self, tset, ?_, ?_, fun q hq => ?_⟩
      · rw [dp]
        refine .dck upd_same (by rw [pk, List.length_append]; simp; omega) (by rw [pk]; simp [e]) (by rw [pk, List.map_append, List.nodup_append]; exact ⟨ndk, by simp, fun x hx y hy hxy => by simp at hy; subst hy; subst hxy; exact nk hx⟩) ?_
        rw [pk, List.map_append, List.map_append]
        refine ROs.snoc (ROs.mono (by rw [← pk]; exact tp) (Le.refl _) rs (fun q hq o e => upd_kp e fun e => nd1.1 (e ▸ hq)) fun q hq o e => upd_kp e fun e => nd1.1 (e ▸ hq)) (by rw [← pk]; exact rz')
      · rw [← List.cons_append]; exact nd
      · rw [← List.cons_append] at hq; exact List.mem_append.mp hq
    · obtain ⟨_, fj, e1, _, sub, ndj, back⟩ := ROs.focus rs nd1.2 q4
      obtain ⟨fp', w1, w2, w3⟩ := back (fun q hq _ o e => upd_kp (o' := .dK (putK kvs k v)) e (nfq q hq)) tp (Le.refl G) rz' nd2 fun q hq hm => (nd3 q (List.mem_cons_of_mem _ hm) q hq rfl).elim
      have pk : putK kvs k v = kvs.map (fun kv => if kv.1 = k then (kv.1, v) else kv) := by
        unfold putK
        rw [if_pos]
        rw [List.any_eq_true]
        obtain ⟨kv, hm, hd⟩ := List.mem_map.mp (List.mem_of_getElem? q6)
        exact ⟨kv, hm, decide_eq_true hd⟩
      refine ⟨p, _, .dK (putK kvs k v), p :: fp', rfl, h1, .inr (.inl ⟨_, rfl⟩), List.mem_cons_self, tset, ?_, ?_, fun q hq => ?_⟩
      · have ek : (putK kvs k v).map (·.1) = kvs.map (·.1) := by
          rw [pk, List.map_map]
          refine List.map_congr_left fun a _ => ?_
          show (if a.1 = k then (a.1, v) else a).1 = a.1
          split <;> rfl
        refine .dck upd_same (by rw [pk, List.length_map]; exact hz) (by rw [dput_keys q5, e]; have := congrArg (List.map keyD) ek; rw [List.map_map, List.map_map] at this; exact this.symm) (by rw [ek]; exact ndk) ?_
        have s1 : (putK kvs k v).map (·.2) = (kvs.map (·.2)).set j v := by rw [pk]; exact map_set_snd ndk q6
        have s2 : (dput es (keyD k) z).map (·.2) = (es.map (·.2)).set j z := by
          unfold dput
          rw [if_pos q5]
          exact map_set_sndD kq_key e ndk q6
        rw [s2]
        rw [← s1] at w1
        exact w1
      · rw [List.nodup_cons]
        refine ⟨fun hm => ?_, w2⟩
        rcases w3 p hm with z | z
        · exact npz z
        · exact nd1.1 z.1
      · rcases List.mem_cons.mp hq with e | hq
        · subst e; exact .inl List.mem_cons_self
        · rcases w3 q hq with z | z
          · exact .inr z
          · exact .inl (List.mem_cons_of_mem _ z.1)
  | dct h1 hz e ndk rs =>
    simp only [cput] at h
    rw [if_neg (by rintro ⟨h, _⟩; cases h)] at h
    cases h
  | ins h1 hz e ndk rs =>
    simp only [cput] at h
    rw [if_neg (by rintro ⟨h, _⟩; cases h)] at h
    cases h
end
end Sq
/-! Sq13: append, pop, put -/
namespace Sq
open PySem PySem.Spec PyProof.Rows L2
section
variable {K : Frag} {G H G1 H1 : Hp} {m n : Nat} {u v : V} {c z d : D} {fc fz fp : List Addr}
/-- a list with one more at its end -/
theorem obj_app {xs : List D} (r : RepO K G H (At H) (m + 1) u (.list xs) fc) (rz : RepO K G H (At H) m v z fz) (nd : (fc ++ fz).Nodup) (hl : xs.length < sizeLine) :
    ∃ p vs, u = .ref p ∧ H p = some (.lst vs) ∧ p ∈ fc ∧ vs.length < sizeLine ∧ RepO K G (upd H p (.lst (vs ++ [v]))) (At (upd H p (.lst (vs ++ [v])))) (m + 1) u (.list (xs ++ [z])) (fc ++ fz) := by
  obtain ⟨nd1, nd2, nd3⟩ := List.nodup_append.mp nd
  cases r with
  | leaf l r => cases l
  | @lst _ p vs ds fp h1 hz rs =>
    rw [List.nodup_cons] at nd1
    have hlen := ROs.length rs
    have nfq : ∀ q ∈ fp, q ≠ p := fun q hq e => by subst e; exact nd1.1 hq
    have nzq : ∀ q ∈ fz, q ≠ p := fun q hq e => by subst e; exact nd3 q List.mem_cons_self q hq rfl
    have tp : Tups H (upd H p (.lst (vs ++ [v]))) := tups_upd h1 (.inl ⟨_, rfl⟩)
    refine ⟨p, vs, rfl, h1, List.mem_cons_self, by omega, ?_⟩
    rw [List.cons_append]
    refine .lst upd_same (by rw [List.length_append]; simp; omega) ?_
    exact ROs.snoc (rs.mono tp (Le.refl G) (fun q hq o e => upd_kp e (nfq q hq)) fun q hq o e => upd_kp e (nfq q hq)) (rz.mono tp (Le.refl G) (fun q hq o e => upd_kp e (nzq q hq)) fun q hq o e => upd_kp e (nzq q hq))
end
section
variable {X : Cx} {e : Expr} {pos : Pos} {b : Bx}
/-- slot.append(w) -/
def wApp (i : Nat) (w : WE) : WE := fun env Q => (∃ n xs, env[i]? = some (some (.own n, .list xs))) ∧ w env fun k z e1 => ∃ m xs, e1[i]? = some (some (.own (m + 1), .list xs)) ∧ fit k m z ∧ xs.length < sizeLine ∧ Q 0 .none (e1.set i (some (.own (m + 1), .list (xs ++ [z]))))
/-- place.append(w), where w does not look at the place's slot -/
def wAppB (b : Bx) (w : WE) : WE := fun env Q => ∃ n d ks m xs, env[b.slot]? = some (some (.own n, d)) ∧ b.keys env = some ks ∧ dpath n d ks = some (m + 1, .list xs) ∧
  w (env.set b.slot none) fun k z e1 => fit k m z ∧ xs.length < sizeLine ∧ b.slot < e1.length ∧ Q 0 .none (e1.set b.slot (some (.own n, dset d ks (.list (xs ++ [z])))))
theorem lt_of_get {α : Type} {xs : List α} {i : Nat} {x : α} (h : xs[i]? = some x) : i < xs.length := (List.getElem?_eq_some_iff.mp h).1
theorem set_twice {α : Type} {xs : List α} {i : Nat} {x y : α} : (xs.set i x).set i y = xs.set i y := by simp
theorem app_rd {i : Nat} {w : WE} {σ : L2.St} {H : Hp} {Q : VK} (h : rdE X.K (wApp i w) σ H Q) :
    tBM X.K "list" rAppend (tVar i) (tCons (rdE X.K w) tNil) σ H Q := by
  obtain ⟨G, L, env, f, P, s, ⟨⟨n0, xs0, e0⟩, h⟩, q⟩ := h
  obtain ⟨v0, ev, r0⟩ := s.slot i _ _ e0
  obtain ⟨a0, vs0, e1, hq, _⟩ := (RepO.x r0).lstAny s.gh
  subst e1
  refine ⟨_, ev, .inl ⟨rfl, vs0, hq⟩, G, L, env, f, _, s, h, ?_⟩
  rintro k z e1 ⟨m, xs, e2, hf, hl, hQ⟩ v G1 H1 f1 fv p r
  obtain ⟨v1, ev1, r1⟩ := p.sr.slot i _ _ e2
  rw [ev] at ev1; cases ev1
  have po := p.out e2
  obtain ⟨a, vs, ea, h1, hm, hlen, r2⟩ := obj_app r1 (toK r hf) po.nd hl
  cases ea
  refine ⟨_, vs, v, rfl, rfl, h1, hlen, ?_⟩
  have mu : ∀ q ∈ f1 i ++ fv, ∃ o, H1 q = some o ∧ Mutb o := fun q hq => by
    rcases List.mem_append.mp hq with hq | hq
    · exact RepO.mutb r1 q hq
    · exact RepO.mutb r q hq
  have w := Post.wb (fv2 := []) (i := i) po (fun q o e hn => upd_kp (o' := .lst (vs ++ [v])) e fun e => hn (by rw [e]; exact List.mem_append_left _ hm)) (fun q => upd_dm h1) mu (by rw [List.append_nil]; exact po.nd) (fun q hq => by rw [List.append_nil] at hq; exact hq) (by rw [List.length_set]; exact lt_of_get e2) r2 ev
  rw [set_twice] at w
  exact q 0 .none _ hQ .non G1 _ _ [] w (.frz .non)
theorem snd_app {o : Expr} {apos cpos : Pos} {i : Nat} {w : WE} (ho : PE X o (tVar i)) (he : PE X e (rdE X.K w))
    (hbase : attributeBase o (Str.ofString "append") X.env (eval o X.env) = eval o X.env)
    (hfew : ((backTo cpos (starEach [e] X.env)).all (fun x => !x.1) && (backToKw cpos (keywordEach [] X.env)).all (fun x => x.1.isSome) && decide (([e] : List Expr).length + ([] : List Keyword).length + (if ([] : List Keyword).isEmpty then 0 else 1) < 30)) = true)
    (hline : (apos.endLine == cpos.line) = true) (hs : starEach [e] X.env = (false, eval e X.env) :: starEach [] X.env) (hplain : (backTo cpos (starEach [] X.env)).any (·.1) = false) :
    PE X (.Call (.Attribute o (Str.ofString "append") apos) [e] [] cpos) (rdE X.K (wApp i w)) :=
  pe_imp (pe_bm PySem.F.plainAttrs_list PySem.F.slot_list_append PySem.F.type_list_append mt_append ho (pa_cons he pa_nil hs) hbase hfew hline hs hplain) fun σ H Q h => app_rd h
/-! ### pop -/
def wPop (b : Bx) : WE := fun env Q => ∃ n d ks xs z, env[b.slot]? = some (some (.own n, d)) ∧ b.keys env = some ks ∧ dpath n d ks = some (1, .list xs) ∧ xs.getLast? = some z ∧ Q 0 z (env.set b.slot (some (.own n, dset d ks (.list xs.dropLast))))
theorem RepFs.dropLast {K : Frag} {G H : Hp} {vs : List V} {ds : List D} (h : RepFs K G H vs ds) : RepFs K G H vs.dropLast ds.dropLast := by
  rw [List.dropLast_eq_take, List.dropLast_eq_take, h.length]
  exact h.take _
theorem pop_rd {σ : L2.St} {H : Hp} {Q : VK} (h : rdE X.K (wPop b) σ H Q) : tBM0 X.K "list" rPop (tBx X.K b) σ H Q := by
  obtain ⟨G, L, env, f, P, s, ⟨n, d, ks, xs, z, e0, e1, e2, ez, h⟩, q⟩ := h
  obtain ⟨v0, ev, r0⟩ := s.slot b.slot _ _ e0
  obtain ⟨u, fc, pv, r1, ndc, sub, back⟩ := path_own r0 (s.nd _) e2
  refine place_val s e1 ev pv ?_
  cases r1 with
  | leaf l => cases l
  | @lst _ p vs ds fp h1 hz rs =>
    obtain ⟨rf, rfl⟩ := ROs.plain rs
    have el : xs[xs.length - 1]? = some z := by rw [← List.getLast?_eq_getElem?]; exact ez
    obtain ⟨w, ew, rw'⟩ := rf.get el
    refine ⟨.inl ⟨rfl, vs, SqL.of h1⟩, p, vs, w, rfl, rfl, h1, by rw [rf.length]; exact ew, ?_⟩
    have p0 := (Post.refl s).out e0
    rw [List.append_nil] at p0
    have tp : Tups H (upd H p (.lst vs.dropLast)) := tups_upd h1 (.inl ⟨_, rfl⟩)
    have r2 : RepO X.K G (upd H p (.lst vs.dropLast)) (At (upd H p (.lst vs.dropLast))) 1 (.ref p) (.list xs.dropLast) [p] :=
      .lst upd_same (by rw [List.length_dropLast]; omega) (ROs.of (rf.dropLast.mono tp (Le.refl G)))
    obtain ⟨fp', b1, b2, b3⟩ := back (fun q hq hn o e => upd_kp (o' := .lst vs.dropLast) e fun e => hn (by rw [e]; simp)) tp (Le.refl G) r2 (by simp) fun q hq _ => by simpa using hq
    have wb := Post.wb (fv2 := []) (i := b.slot) p0 (fun q o e hn => upd_kp (o' := .lst vs.dropLast) e fun e => hn (by rw [e]; exact sub p (by simp))) (fun q => upd_dm h1) (fun q hq => RepO.mutb r0 q hq) (by rw [List.append_nil]; exact b2) (fun q hq => by
      rw [List.append_nil] at hq
      rcases b3 q hq with z | z
      · exact sub q (by simpa using z)
      · exact z.1) (by rw [List.length_set]; exact lt_of_get e0) b1 ev
    rw [set_twice] at wb
    exact q 0 z _ h w G _ _ [] wb (.frz (rw'.mono tp (Le.refl G)))
theorem snd_pop {o : Expr} {apos cpos : Pos} (ho : PE X o (tBx X.K b)) (hbase : attributeBase o (Str.ofString "pop") X.env (eval o X.env) = eval o X.env) (hline : (apos.endLine == cpos.line) = true) :
    PE X (.Call (.Attribute o (Str.ofString "pop") apos) [] [] cpos) (rdE X.K (wPop b)) :=
  pe_imp (pe_bm0 PySem.F.plainAttrs_list PySem.F.slot_list_pop PySem.F.type_list_pop mt_pop ho hbase hline) fun σ H Q h => pop_rd h
/-! ### put -/
def wPut (b : Bx) (x : Kx) : WG := fun k z env Q => ∃ n d ks key m c c', env[b.slot]? = some (some (.own n, d)) ∧ b.keys env = some ks ∧ x.key env = some key ∧ dpath n d ks = some (m + 1, c) ∧ fit k m z ∧ cput c key z = some c' ∧
  Q (env.set b.slot (some (.own n, dset d ks c')))
theorem snd_put {o i : Expr} {x : Kx} {A : Nat → Prop} (hu : X.A.units + 1 < cLine) (ho : PE X o (tBx X.K b)) (hi : PE X i (tKx X.K x))
    (ha : ∀ v, assign (.Subscript o i pos) X.env v = (do
      let ov ← holding [v] (eval o X.env)
      let iv ← holding [v, ov] (eval i X.env)
      standAt pos
      holding [v, ov, iv] (setItem ov iv v)
      release [v, ov, iv] [])) : PG X (.Subscript o i pos) (rdG X.K A (wPut b x)) := by
  refine pg_imp (pg_sub ho hi (pset_put hu) ha) fun v σ H Q h => ?_
  obtain ⟨G, L, env, f, k, z, fv, P, p, r, ⟨n, d, ks, key, m, c, c', e0, e1, e2, e3, hf, ec, hP⟩, q⟩ := h
  have s := p.sr
  obtain ⟨v0, ev, r0⟩ := s.slot b.slot _ _ e0
  obtain ⟨u, fc, pv, r1, ndc, sub, back⟩ := path_own r0 (s.nd _) e3
  refine place_val s e1 ev pv (key_val s e2 ?_)
  have p0 := p.out e0
  obtain ⟨n1, n2, n3⟩ := List.nodup_append.mp p0.nd
  obtain ⟨a, o1, o', fc', ea, h1, hmb, hm, hset, r2, ndc', sub'⟩ := obj_put r1 (toK r hf) (List.nodup_append.mpr ⟨ndc, n2, fun x hx y hy => n3 x (sub x hx) y hy⟩) ec
  refine hset _ ?_
  have mu : ∀ q ∈ f b.slot ++ fv, ∃ o, H q = some o ∧ Mutb o := fun q hq => by
    rcases List.mem_append.mp hq with hq | hq
    · exact RepO.mutb r0 q hq
    · exact RepO.mutb r q hq
  obtain ⟨fp', b1, b2, b3⟩ := back (fun q hq hn o e => upd_kp (o' := o') e fun e => hn (by rw [e]; exact hm)) (tups_upd h1 hmb) (Le.refl G) r2 ndc' fun q hq hm' => by
    rcases sub' q hq with z | z
    · exact z
    · exact (n3 q hm' q z rfl).elim
  have wb := Post.wb (fv2 := []) (i := b.slot) p0 (fun q o e hn => upd_kp (o' := o') e fun e => hn (by rw [e]; exact List.mem_append_left _ (sub a hm))) (fun q => upd_dm h1) mu (by rw [List.append_nil]; exact b2) (fun q hq => by
    rw [List.append_nil] at hq
    rcases b3 q hq with z | z
    · rcases sub' q z with z | z
      · exact List.mem_append_left _ (sub q z)
      · exact List.mem_append_right _ z
    · exact List.mem_append_left _ z.1) (by rw [List.length_set]; exact lt_of_get e0) b1 ev
  rw [set_twice] at wb
  exact q _ hP σ G _ _ wb (.refl σ)
end
end Sq
/-! Sq14: dict displays -/
namespace Sq
open PySem PySem.Spec PyProof.Rows L2
def waOf : List WE → WA
  | [] => wNil
  | w :: ws => wCons (wEx w) (waOf ws)
inductive PVs (X : Cx) : List Expr → List WE → Prop
  | nil : PVs X [] []
  | cons {e : Expr} {es : List Expr} {w : WE} {ws : List WE} : PE X e (rdE X.K w) → PVs X es ws → PVs X (e :: es) (w :: ws)
inductive PKs (X : Cx) : List (Option Expr) → List Key → Prop
  | nil : PKs X [] []
  | cons {e : Expr} {es : List (Option Expr)} {k : Key} {ks : List Key} : PE X e (tC (kV k)) → PKs X es ks → PKs X (some e :: es) (k :: ks)
theorem rdE_mono {K : Frag} {w : WE} {σ : L2.St} {H : Hp} {Q Q' : VK} (h : rdE K w σ H Q) (k : ∀ v H, Q v H → Q' v H) : rdE K w σ H Q' := by
  obtain ⟨G, L, env, f, P, s, h, q⟩ := h
  exact ⟨G, L, env, f, P, s, h, fun n d e1 h1 v G1 H1 f1 fv p r => k _ _ (q n d e1 h1 v G1 H1 f1 fv p r)⟩
theorem cons_rd {K : Frag} {a : WO} {b : WA} {σ : L2.St} {H : Hp} {Q : List V → Hp → Prop} (h : rdA K (wCons a b) σ H Q) : rdO K a σ H fun x H1 => rdA K b σ H1 fun xs H2 => Q (x :: xs) H2 := by
  obtain ⟨G, L, env, f, P, s, h, q⟩ := h
  refine ⟨G, L, env, f, _, s, h, fun o env1 h1 v1 G1 H1 f1 fv1 p1 r1 => ?_⟩
  refine ⟨G1, L, env1, f1, _, p1.sr, h1, fun os env2 h2 vs G2 H2 f2 fv2 p2 r2 => ?_⟩
  exact q _ _ h2 _ G2 H2 f2 _ (p1.seq p2) (.cons (OpdR.step p1 p2 r1) r2)
theorem ex_rd {K : Frag} {w : WE} {σ : L2.St} {H : Hp} {Q : VK} (h : rdO K (wEx w) σ H Q) : rdE K w σ H Q := by
  obtain ⟨G, L, env, f, P, s, h, q⟩ := h
  exact ⟨G, L, env, f, _, s, h, fun n d env' h v G' H' f' fv p r => q _ _ h v G' H' f' fv p r⟩
def trsOf (K : Frag) : List Key → List WE → List (TE × TE)
  | k :: ks, w :: ws => (tC (kV k), rdE K w) :: trsOf K ks ws
  | _, _ => []
theorem pps_of {X : Cx} {pos : Pos} : ∀ {es : List (Option Expr)} {ks : List Key} {vs : List Expr} {ws : List WE}, PKs X es ks → PVs X vs ws → es.length = vs.length → PPs X pos es vs (trsOf X.K ks ws)
  | _, _, _, _, .nil, .nil, _ => pps_nil
  | _, _, _, _, .cons h r, .cons h' r', l => pps_cons h h' (pps_of r r' (by simpa using l))
theorem pairs_rd {K : Frag} : ∀ {ks : List Key} {ws : List WE} {σ : L2.St} {H : Hp} {Q : List (V × V) → Hp → Prop}, ks.length = ws.length → rdA K (waOf ws) σ H (fun vs H1 => Q ((ks.map kV).zip vs) H1) → tPairs (trsOf K ks ws) σ H Q
  | [], [], σ, H, Q, _, h => by
    obtain ⟨G, L, env, f, P, s, h, q⟩ := h
    exact q _ _ h [] G H f [] (.refl s) .nil
  | [], _ :: _, _, _, _, l, _ => by simp at l
  | _ :: _, [], _, _, _, l, _ => by simp at l
  | k :: ks, w :: ws, σ, H, Q, l, h => by
    have h := ex_rd (cons_rd h)
    exact rdE_mono h fun v H1 h1 => pairs_rd (ks := ks) (Q := fun ps H3 => Q ((kV k, v) :: ps) H3) (by simpa using l) h1
theorem mergeK_new : ∀ {more kvs : List (Key × V)}, ((kvs ++ more).map (·.1)).Nodup → mergeK kvs more = kvs ++ more
  | [], kvs, _ => by simp [mergeK]
  | p :: r, kvs, nd => by
    have e : putK kvs p.1 p.2 = kvs ++ [p] := by
      unfold putK
      rw [if_neg]
      intro h
      obtain ⟨kv, hm, hd⟩ := List.any_eq_true.mp h
      have hd := of_decide_eq_true hd
      rw [List.map_append, List.nodup_append] at nd
      exact nd.2.2 kv.1 (List.mem_map.mpr ⟨kv, hm, rfl⟩) p.1 (by simp) hd
    show mergeK (putK kvs p.1 p.2) r = _
    rw [e, mergeK_new (by simpa using nd)]
    simp
/-- {k: w, ..} with written keys -/
def wDisp (ks : List Key) (m : Nat) (ws : List WE) : WE := fun env Q => waOf ws env fun os e1 => ∃ ds, tmpsK m os = some ds ∧ ds.length = ks.length ∧ Q (m + 1) (.dict ((ks.map keyD).zip ds)) e1
section
variable {X : Cx} {pos : Pos}
theorem snd_disp {es : List (Option Expr)} {vs : List Expr} {ks : List Key} {ws : List WE} {m : Nat} (hk : PKs X es ks) (hv : PVs X vs ws) (hl : es.length = vs.length) (hw : ks.length = ws.length) (nd : ks.Nodup) (hall : es.all (·.isSome) = true) (h0 : es ≠ []) (h15 : es.length ≤ 15) (hk15 : ks.length ≤ 15) :
    PE X (.Dict es vs pos) (rdE X.K (wDisp ks m ws)) := by
  refine pe_imp (pe_disp (pps_of hk hv hl) hall hl h0 h15) fun σ H Q ⟨G, L, env, f, P, s, h, q⟩ a ha => pairs_rd hw ?_
  have p0 : Post X.K G H L σ (Owns f) G (upd H a (.dK [])) env f [a] := Post.of_le s (le_upd ha) (by simp) (fun q hq => by simp at hq; subst hq; exact ha) fun q hq => by simp at hq; subst hq; exact ⟨_, upd_same⟩
  refine ⟨G, L, env, f, _, p0.sr, h, ?_⟩
  rintro os e1 ⟨ds, ht, hd, hP⟩ us G1 H1 f1 fv p1 r1
  have ro := tmpsK_rep r1 ht
  have lu : us.length = ks.length := by rw [ro.length]; exact hd
  have ha1 : H1 a = some (.dK []) := p1.stp.keep a _ upd_same (p0.dj a (by simp))
  have kl : (ks.zip us).map (·.1) = ks := by rw [List.map_fst_zip]; omega
  have vl : (ks.zip us).map (·.2) = us := by rw [List.map_snd_zip]; omega
  have pl : (ks.map kV).zip us = (ks.zip us).map (fun kv => (kV kv.1, kv.2)) := by
    rw [List.zip_map_left]
    rfl
  have lz : (ks.zip us).length = ks.length := by rw [List.length_zip]; omega
  refine ⟨ha1, ks.zip us, pl, by omega, ?_⟩
  have me : mergeK [] (ks.zip us) = ks.zip us := mergeK_new (by rw [List.nil_append, kl]; exact nd)
  rw [me]
  have pp := p0.seq p1
  obtain ⟨n1, n2, n3⟩ := List.nodup_append.mp pp.nd
  have hn : ∀ x ∈ fv, x ≠ a := fun x hx e => n3 a (by simp) x hx e.symm
  have tp : Tups H1 (upd H1 a (.dK (ks.zip us))) := tups_upd ha1 (.inr (.inl ⟨_, rfl⟩))
  have big : ks.length ≤ sizeLine := by rw [sizeLine_eq]; omega
  have rr : RepO X.K G1 (upd H1 a (.dK (ks.zip us))) (At (upd H1 a (.dK (ks.zip us)))) (m + 1) (.ref a) (.dict ((ks.map keyD).zip ds)) (a :: fv) := by
    refine .dck upd_same (by omega) ?_ (by rw [kl]; exact nd) ?_
    · have e2 : ((ks.zip us).map fun kv => keyD kv.1) = ((ks.zip us).map (·.1)).map keyD := by rw [List.map_map]; rfl
      rw [e2, kl, List.map_fst_zip]
      rw [List.length_map]; omega
    · rw [vl, List.map_snd_zip (by rw [List.length_map]; omega)]
      exact ro.mono tp (Le.refl _) (fun p hp o e => upd_kp e (hn p hp)) fun p hp o e => upd_kp e (hn p hp)
  have pm := pp.mutH (H2 := upd H1 a (.dK (ks.zip us))) (fv2 := a :: fv) (fun p o e hn => upd_kp e fun e => hn (by rw [e]; simp)) (fun p => upd_dm ha1) (fun p hp => by
    rcases List.mem_append.mp hp with z | z
    · simp at z; subst z; exact ⟨_, ha1, .inr (.inl ⟨_, rfl⟩)⟩
    · exact ROs.mutb ro p z) (by simpa using pp.nd) fun p hp => by simpa using hp
  exact q (m + 1) _ _ hP (.ref a) G1 _ f1 _ pm rr
/-- {} -/
def wDNew (n : Nat) : WE := fun env Q => Q (n + 1) (.dict []) env
def wDNewT (n : Nat) : WE := fun env Q => Q (n + 1) (.dict [dTmark]) env
end
end Sq
/-! Sq15: defs that are called where nothing is guarded -/
namespace Sq
open PySem PySem.Spec PyProof.Rows L2
/-- a promise as the layer's, for calls where no guard stands -/
structure FnG (P : Program) (w : World) (K : Frag) (mg : Str → Option Value) (base : Heap) (k : Nat) (f : Addr) (fd : FuncData) (ps : List Str) (sp : Sp) : Prop where
  len : ∀ vs H Q E, sp vs H Q E → vs.length = ps.length
  run : ∀ (A : Around) (up : List Env) (s : Shared) (H : Hp) (args : Args) (us : List Value) (vs : List V) (Q : VK), Room k A → A.guards = some [] → Env0 P w K mg base A up s H → BindsTo s fd args (ps.zip us) →
    Vals vs us → sp vs H Q (fun _ _ _ => False) → codeAny (model P w) A (.call (.ref f) args) (CR CX0 up P w H s Q fun _ _ _ => False) s
theorem FnG.mono {P : Program} {w : World} {K : Frag} {mg : Str → Option Value} {base : Heap} {j k : Nat} {f : Addr} {fd : FuncData} {ps : List Str} {sp : Sp} (F : FnG P w K mg base j f fd ps sp) (h : j ≤ k) : FnG P w K mg base k f fd ps sp :=
  ⟨F.len, fun A up s H args us vs Q hr => F.run A up s H args us vs Q (hr.mono h)⟩
section
variable {P : Program} {w : World} {K : Frag} {mg : Str → Option Value} {base : Heap} {k : Nat} {f : Addr} {name qual : Str} {params : Arguments} {body : List Stmt} {scope : Scope} {dV kV doc pm cdv ct oc : Value} {an od : Option Addr} {osl : Array (Option Value)} {N ps : List Str} {sp : Sp}
theorem fnG_of (at_f : K.lookup f = some ⟨oc, od, .func (PySem.W.fnOf name qual params body scope dV kV doc pm an cdv ct), osl⟩) (at_c : PySem.W.codeIn K cdv qual = true) (sc : FnScope N ps scope) (len : ∀ vs H Q E, sp vs H Q E → vs.length = ps.length)
    (go : ∀ (A : Around) (up : List Env) (s : Shared) (H : Hp) (vs : List V) (Q : VK), Room k (A.deeper (envOfC qual scope s.heap.objs.size f cdv)) → A.guards = some [] → sp vs H Q (fun _ _ _ => False) →
      ∃ t, PSs (cxOf CX0 P w K mg base N qual scope f cdv A up s H fun _ _ _ => False) body t ∧ t { nx := fun _ H' => Q .non H', rt := Q } (start N vs) H) :
    FnG P w K mg base (k + 1) f (PySem.W.fnOf name qual params body scope dV kV doc pm an cdv ct) ps sp := by
  refine ⟨len, ?_⟩
  intro A up s H args us vs Q room gu e0 bd rel asked
  have hlen := len _ _ _ _ asked
  have inK : K.In s.heap := e0.mod.kin.keeps fun b o q => (e0.bs b o q).1
  have free : s.heap.NoLimit := e0.mod.nolimit.keeps fun b o q => (e0.bs b o q).1
  have kinds : ∀ y ∈ ps.zip us, scope.names.lookup y.1 = some .local ∨
      (scope.names.lookup y.1 = some .cell ∧ ((cellsFrom (s.heap.objs.size + 1) scope.names []).lookup y.1).isSome = true) := by
    rintro ⟨x, u⟩ hy
    exact (sc.par x (List.of_mem_zip hy).1).imp id fun c => ⟨c, PySem.W.cellsFrom_some _ _ _ (.inl c)⟩
  apply codeAny_call_function room.depth (inK _ _ at_f) rfl sc.co sc.gen rfl (PySem.W.codeRec_of inK at_c)
  refine bd _ _ _ _ (wpAny_newFunctionEnv_cells sc.kind kinds fun env he s1 cells => ?_)
  subst he
  refine ⟨free.keeps cells.toInCall.keep, codeAny_func ?_⟩
  obtain ⟨t, walk, hq⟩ := go A up s H vs Q (room.deeper _) gu asked
  have I0 := inv_start (CX := CX0) (E := fun _ _ _ => False) sc room.hd e0 hlen rel cells
  refine wpAny_mono (walk.run [] s1 (start N vs) H _ I0 hq) ?_ fun _ _ q => q
  intro fl s2 at_end
  cases fl with
  | ret u => exact let ⟨v, _, H2, J, rv, q⟩ := at_end; ⟨v, H2, J.os, J.bare, J.base, J.hok, rv, q⟩
  | next => exact let ⟨_, H2, J, q⟩ := at_end; ⟨V.non, H2, J.os, J.bare, J.base, J.hok, rfl, q⟩
  | brk => exact let ⟨_, _, _, q⟩ := at_end; q.elim
  | cont => exact let ⟨_, _, _, q⟩ := at_end; q.elim
theorem okG {y x : Str} {st : Stmt} {fd : FuncData} (F : Fun K y x st f fd) (sc : FnScope N ps (defScope st)) (len : ∀ vs H Q E, sp vs H Q E → vs.length = ps.length)
    (go : ∀ (cdv : Value) (A : Around) (up : List Env) (s : Shared) (H : Hp) (vs : List V) (Q : VK), Room k (A.deeper (envOfC x (defScope st) s.heap.objs.size f cdv)) → A.guards = some [] → sp vs H Q (fun _ _ _ => False) →
      ∃ t, PSs (cxOf CX0 P w K mg base N x (defScope st) f cdv A up s H fun _ _ _ => False).nox (defBody st) t ∧ t { nx := fun _ H' => Q .non H', rt := Q } (start N vs) H) : FnG P w K mg base (k + 1) f fd ps sp := by
  obtain ⟨_, _, _, _, _, _, c, _, _, rfl, at_f, at_c⟩ := F.ex
  refine fnG_of at_f at_c sc len ?_
  intro A up s H vs Q room gu asked
  obtain ⟨t, walk, q⟩ := go c A up s H vs Q room gu asked
  exact ⟨t, walk.nox, q⟩
end
section
variable {X : Cx} {k : Nat} {f : Addr} {fd : FuncData} {ps : List Str} {sp : Sp} {x : Str} {p pos : Pos} {e : Expr} {es : List Expr} {t : TA}
theorem run_fnG {pins : List (Addr × Obj)} {σ : L2.St} {H : Hp} {s : Shared} {Q : VK} {us : List Value} {vs : List V} (F : FnG X.prog X.w X.K X.mg X.base k f fd ps sp) (room : Room k X.A) (gu : X.A.guards = some []) (bd : Binds X.K fd ps [])
    (I : Inv X pins σ H s) (rel : Vals vs us) (asked : sp vs H Q fun _ _ _ => False) : wpAny (model X.prog X.w) X.A (call (.ref f) us) (EP X pins σ Q) X.xe s := by
  have hl : us.length = ps.length := rel.length.symm.trans (F.len _ _ _ _ asked)
  have b := bd s us I.kIn (by simpa using hl)
  rw [List.append_nil] at b
  refine wpAny_call (codeAny_mono (F.run X.A X.stack s H ⟨us, []⟩ us vs Q room gu I.env0 b rel asked) ?_)
  intro r s2 q
  match r, q with
  | .ok (.ret u), q => exact I.after q
theorem pe_callG (F : FnG X.prog X.w X.K X.mg X.base k f fd ps sp) (room : Room k X.A) (gu : X.A.guards = some []) (hg : Gl X x) (hm : X.mg x = some (.ref f)) (hk : PySem.W.keepIn X.K (.ref f) = true) (bd : Binds X.K fd ps [])
    (ha : PA X (e :: es) t) (hdb : (x == ("__debug__" : Str)) = false) (he : starEach (e :: es) X.env = (false, eval e X.env) :: starEach es X.env) (hpl : (backTo pos (starEach es X.env)).any (·.1) = false) :
    PE X (.Call (.Name x p) (e :: es) [] pos) (fun σ H Q => t σ H fun vs H1 => sp vs H1 Q fun _ _ _ => False) := by
  constructor
  intro pins s σ H Q I h
  refine wpAny_Call_Name_kw (ld_glob I hg hm (PySem.W.callWith_K (h₀ := X.base) I.ok.mod.kin hk (thn (ha.run pos pins s σ H _ I h) ?_) he hpl) hdb)
  rintro us s1 ⟨vs, H1, I1, r, q⟩
  exact ⟨I1.kIn, run_fnG F room gu bd I1 r q⟩
end
end Sq
/-! Sq16: what a def says of data; calls -/
namespace Sq
open PySem PySem.Spec PyProof.Rows L2
/-- how a parameter is taken: a plain thing; an owned one that is written, and is there again behind the call; one that is looked at -/
inductive PM where
  | val
  | io (n : Nat)
  | br (n : Nat)
structure FS where
  ms : List PM
  sp : List D → (Nat → D → List D → Prop) → Prop
def entM : PM → D → Slot
  | .val, d => some (.own 0, d)
  | .io n, d => some (.own n, d)
  | .br n, d => some (.lok n, d)
def entE (ms : List PM) (ds : List D) : En := List.zipWith entM ms ds
def outE : List PM → List D → En
  | .io n :: ms, o :: os => some (.own n, o) :: outE ms os
  | _ :: ms, os => none :: outE ms os
  | [], _ => []
theorem outE_len : ∀ (ms : List PM) (os : List D), (outE ms os).length = ms.length
  | [], os => by cases os <;> rfl
  | .val :: ms, os => by simp [outE, outE_len ms os]
  | .br _ :: ms, os => by simp [outE, outE_len ms os]
  | .io _ :: ms, [] => by simp [outE, outE_len ms []]
  | .io _ :: ms, o :: os => by simp [outE, outE_len ms os]
theorem outE_own : ∀ {ms : List PM} {os : List D} {t : Nat} {m : Md} {d : D}, (outE ms os)[t]? = some (some (m, d)) → ∃ n, m = .own n ∧ ms[t]? = some (.io n)
  | [], os, t, m, d, h => by cases os <;> simp [outE] at h
  | .val :: ms, os, 0, m, d, h => by simp [outE] at h
  | .br _ :: ms, os, 0, m, d, h => by simp [outE] at h
  | .io _ :: ms, [], 0, m, d, h => by simp [outE] at h
  | .io n :: ms, o :: os, 0, m, d, h => by
    simp [outE] at h
    exact ⟨n, h.1.symm, rfl⟩
  | .val :: ms, os, t + 1, m, d, h => by simpa using outE_own (ms := ms) (os := os) (by simpa [outE] using h)
  | .br _ :: ms, os, t + 1, m, d, h => by simpa using outE_own (ms := ms) (os := os) (by simpa [outE] using h)
  | .io _ :: ms, [], t + 1, m, d, h => by simpa using outE_own (ms := ms) (os := []) (by simpa [outE] using h)
  | .io _ :: ms, o :: os, t + 1, m, d, h => by simpa using outE_own (ms := ms) (os := os) (by simpa [outE] using h)
/-- a def's promise by data -/
def spV (K : Frag) (F : FS) : Sp := fun vs H Q _ => ∃ (G : Hp) (L : Addr → Prop) (ds : List D) (f : Fps) (R : Nat → D → List D → Prop), vs.length = F.ms.length ∧ SR K G H L (vs.map some) (entE F.ms ds) f ∧ F.sp ds R ∧
  ∀ k z outs, R k z outs → ∀ v G' H' f' fv, Post K G H L (vs.map some) (Owns f) G' H' (outE F.ms outs) f' fv → RepO K G' H' (At H') k v z fv → Q v H'
/-! ### the body -/
def ioAt : List PM → En → List D → Prop
  | [], _, os => os = []
  | .io n :: ms, s :: e, o :: os => s = some (.own n, o) ∧ ioAt ms e os
  | .io _ :: _, _, _ => False
  | .val :: ms, _ :: e, os => ioAt ms e os
  | .br _ :: ms, _ :: e, os => ioAt ms e os
  | _ :: _, [], _ => False
theorem ioAt_get : ∀ {ms : List PM} {e : En} {os : List D}, ioAt ms e os → ∀ {t : Nat} {x : Md × D}, (outE ms os)[t]? = some (some x) → e[t]? = some (some x)
  | [], e, os, h, t, x, g => by cases os <;> simp [outE] at g
  | .val :: ms, s :: e, os, h, 0, x, g => by simp [outE] at g
  | .br _ :: ms, s :: e, os, h, 0, x, g => by simp [outE] at g
  | .io n :: ms, s :: e, o :: os, h, 0, x, g => by
    simp [outE] at g
    rw [List.getElem?_cons_zero, h.1, g]
  | .val :: ms, s :: e, os, h, t + 1, x, g => by
    rw [List.getElem?_cons_succ]
    exact ioAt_get (ms := ms) h (by simpa [outE] using g)
  | .br _ :: ms, s :: e, os, h, t + 1, x, g => by
    rw [List.getElem?_cons_succ]
    exact ioAt_get (ms := ms) h (by simpa [outE] using g)
  | .io n :: ms, s :: e, o :: os, h, t + 1, x, g => by
    rw [List.getElem?_cons_succ]
    exact ioAt_get (ms := ms) h.2 (by simpa [outE] using g)
  | .io _ :: ms, [], os, h, t, x, g => by cases os <;> exact False.elim h
  | .io _ :: ms, s :: e, [], h, t, x, g => False.elim h
  | .val :: ms, [], os, h, t, x, g => False.elim h
  | .br _ :: ms, [], os, h, t, x, g => False.elim h
def endK (ms : List PM) (R : Nat → D → List D → Prop) : K4 where
  nx := fun e => ∃ os, ioAt ms e os ∧ R 0 .none os
  rt := fun k z e => ∃ os, ioAt ms e os ∧ R k z os
  bk := fun _ => False
  ct := fun _ => False
/-- the slots that may be stored into -/
def Free (ms : List PM) (i : Nat) : Prop := ∀ n, ms[i]? ≠ some (.io n)
section
variable {K : Frag} {G H G' H' : Hp} {L : Addr → Prop}
/-- more slots, all empty -/
theorem SR.more {σ : L2.St} {env : En} {f : Fps} (s : SR K G H L σ env f) (n : Nat) : SR K G H L (σ ++ List.replicate n none) (env ++ List.replicate n none) f := by
  have get : ∀ {i : Nat} {x : Md × D}, (env ++ List.replicate n none)[i]? = some (some x) → env[i]? = some (some x) := fun {i x} h => by
    by_cases hi : i < env.length
    · rwa [List.getElem?_append_left hi] at h
    · rw [List.getElem?_append_right (by omega), List.getElem?_replicate] at h
      split at h <;> cases h
  refine ⟨by simp [s.len], fun i m d h => ?_, fun i p h => ?_, s.nd, s.dj, s.gh, s.gf, s.lk, s.lf⟩
  · have h := get h
    obtain ⟨v, e, r⟩ := s.slot i m d h
    exact ⟨v, by rw [List.getElem?_append_left (lt_of_get e)]; exact e, r⟩
  · obtain ⟨k, d, e⟩ := s.own i p h
    exact ⟨k, d, by rw [List.getElem?_append_left (lt_of_get e)]; exact e⟩
/-- fewer slots are told of -/
theorem Post.few {σ σ0 : L2.St} {F : Addr → Prop} {e env : En} {f : Fps} {fv : List Addr} (a : Post K G H L σ F G' H' e f fv) (hl : env.length = σ0.length) (h : ∀ (i : Nat) (m : Md) (d : D), env[i]? = some (some (m, d)) → (∃ k, m = Md.own k) ∧ e[i]? = some (some (m, d)) ∧ σ[i]? = σ0[i]?) :
    ∃ f', Post K G H L σ0 F G' H' env f' fv := by
  have s := a.sr
  refine ⟨fun i => match env[i]? with
    | some (some _) => f i
    | _ => [], ?_⟩
  have mem : ∀ {i p}, p ∈ (match env[i]? with
    | some (some _) => f i
    | _ => []) → p ∈ f i ∧ ∃ m d, env[i]? = some (some (m, d)) := fun {i p} h => by
    split at h
    · rename_i x q; exact ⟨h, x.1, x.2, q⟩
    · simp at h
  have ow : ∀ {p}, Owns (fun i => match env[i]? with
    | some (some _) => f i
    | _ => []) p → Owns f p := fun {p} ⟨i, h⟩ => ⟨i, (mem h).1⟩
  refine ⟨a.stp, ⟨hl, fun i m d q => ?_, fun i p hp => ?_, fun i => ?_, fun i j p n hp hq => s.dj i j p n (mem hp).1 (mem hq).1, s.gh, fun i p hp => s.gf i p (mem hp).1, s.lk, fun i p hp => s.lf i p (mem hp).1⟩, a.nd, fun p hp z => a.dj p hp (ow z), a.gf, a.al, fun p hp => a.dom p (hp.imp ow id), a.nl⟩
  · obtain ⟨_, e1, e2⟩ := h i m d q
    obtain ⟨v, e3, r⟩ := s.slot i m d e1
    refine ⟨v, by rw [← e2]; exact e3, ?_⟩
    simp only [q]
    exact r
  · obtain ⟨_, m, d, q⟩ := mem hp
    obtain ⟨⟨k, rfl⟩, _⟩ := h i m d q
    exact ⟨k, d, q⟩
  · split
    · exact s.nd i
    · exact List.nodup_nil
end
section
variable {P : Program} {w : World} {K : Frag} {mg : Str → Option Value} {base : Heap} {f : Addr} {fd : FuncData} {N ps : List Str} {k : Nat}
/-- THE RULE for a def -/
theorem fs_of {y x : Str} {st : Stmt} {F : FS} {b : WS} (Fn : Fun K y x st f fd) (sc : FnScope N ps (defScope st)) (hl : F.ms.length = ps.length) (hds : ∀ ds R, F.sp ds R → ds.length = F.ms.length)
    (walk : ∀ (cdv : Value) (A : Around) (up : List Env) (s : Shared) (H : Hp), Room k (A.deeper (envOfC x (defScope st) s.heap.objs.size f cdv)) → A.guards = some [] →
      PSs (cxOf CX0 P w K mg base N x (defScope st) f cdv A up s H fun _ _ _ => False).nox (defBody st) (rdS K (Free F.ms) b))
    (law : ∀ ds R, F.sp ds R → b (entE F.ms ds ++ List.replicate (N.length - ps.length) none) (endK F.ms R)) : FnG P w K mg base (k + 1) f fd ps (spV K F) := by
  refine okG Fn sc (fun vs H Q E h => ?_) fun cdv A up s H vs Q room gu h => ⟨_, walk cdv A up s H room gu, ?_⟩
  · obtain ⟨_, _, _, _, _, h, _⟩ := h
    rw [h, hl]
  · obtain ⟨G, L, ds, fps, R, lv, sr, hsp, hq⟩ := h
    have lv' : vs.length = ps.length := lv.trans hl
    have sm := sr.more (N.length - ps.length)
    have fin : ∀ {k z e}, (∃ os, ioAt F.ms e os ∧ R k z os) → ∀ {v σ' G' H' f' fv}, Post K G H L σ' (Owns fps) G' H' e f' fv → RepO K G' H' (At H') k v z fv → Kp (Free F.ms) (L2.start N vs) σ' → Q v H' := by
      rintro k z e ⟨os, io, r⟩ v σ' G' H' f' fv p ro kp
      obtain ⟨f2, p2⟩ := p.few (σ0 := vs.map some) (env := outE F.ms os) (by rw [outE_len, List.length_map, lv]) fun i m d g => by
        obtain ⟨n, e1, e2⟩ := outE_own g
        refine ⟨⟨n, e1⟩, ioAt_get io g, ?_⟩
        rw [kp.2 i fun fr => fr n e2]
        unfold L2.start
        rw [List.getElem?_append_left (by rw [List.length_map, lv]; exact lt_of_get e2)]
      exact hq k z os r v G' H' f2 fv p2 ro
    refine ⟨G, L, _, fps, endK F.ms R, ?_, law ds R hsp, ?_, ?_, ?_, ?_, ?_⟩
    · show SR K G H L (L2.start N vs) _ _
      unfold L2.start
      rw [lv']
      exact sm
    · intro e q σ' G' H' f' p kp
      exact fin q p (.frz .non) kp
    · intro e q; exact q.elim
    · intro e q; exact q.elim
    · intro n d e q v σ' G' H' f' fv p r kp
      exact fin q p r kp
    · intro c z e q; exact q.elim
end
end Sq
/-! Sq17: calls by data -/
namespace Sq
open PySem PySem.Spec PyProof.Rows L2
/-- an argument: its data, the slot it is written in, the slot it is looked at in -/
abbrev AX := D × Option Nat × Option Nat
def argAt (e : En) : PM → Opd → Option AX
  | .val, .tmp n d => if n = 0 ∨ isLeaf d = true then some (d, none, none) else none
  | .val, .sl i => match e[i]? with
    | some (some (.own n, d)) => if n = 0 ∨ isLeaf d = true then some (d, none, none) else none
    | some (some (.lok n, d)) => if n = 0 ∨ isLeaf d = true then some (d, none, none) else none
    | _ => none
  | .io n, .sl i => match e[i]? with
    | some (some (.own m, d)) => if m = n then some (d, some i, none) else none
    | _ => none
  | .io _, .tmp _ _ => none
  | .br n, .tmp m d => if m = n then some (d, none, none) else none
  | .br n, .sl i => match e[i]? with
    | some (some (.own m, d)) => if m = n then some (d, none, some i) else none
    | some (some (.lok m, d)) => if m = n then some (d, none, none) else none
    | _ => none
def argsAt (e : En) : List PM → List Opd → Option (List AX)
  | [], [] => some []
  | m :: ms, o :: os => (argAt e m o).bind fun x => (argsAt e ms os).map (x :: ·)
  | _, _ => none
def okJ : List (Option Nat) → Bool
  | [] => true
  | none :: r => okJ r
  | some j :: r => !(r.contains (some j)) && okJ r
def okAX (xs : List AX) : Bool := okJ (xs.map (·.2.1)) && xs.all fun x => match x.2.2 with
  | some j => !((xs.map (·.2.1)).contains (some j))
  | none => true
def putO : En → List (Option Nat) → En → En
  | e, some j :: js, s :: ss => putO (e.set j s) js ss
  | e, none :: js, _ :: ss => putO e js ss
  | e, _, _ => e
def wCall (F : FS) (wa : WA) : WE := fun env Q => wa env fun os e1 => ∃ xs, argsAt e1 F.ms os = some xs ∧ okAX xs = true ∧ F.sp (xs.map (·.1)) fun k z outs => Q k z (putO e1 (xs.map (·.2.1)) (outE F.ms outs))
theorem okJ_inj : ∀ {js : List (Option Nat)}, okJ js = true → ∀ {t t' j : Nat}, js[t]? = some (some j) → js[t']? = some (some j) → t = t'
  | [], _, t, t', j, h, _ => by simp at h
  | none :: r, h, 0, t', j, e, _ => by simp at e
  | none :: r, h, t + 1, 0, j, _, e => by simp at e
  | none :: r, h, t + 1, t' + 1, j, e, e' => congrArg (· + 1) (okJ_inj (js := r) (j := j) h (by simpa using e) (by simpa using e'))
  | some i :: r, h, t, t', j, e, e' => by
    simp only [okJ, Bool.and_eq_true, Bool.not_eq_true'] at h
    have no : ∀ {u : Nat}, r[u]? = some (some i) → False := fun {u} q => by
      have : r.contains (some i) = true := List.contains_iff_mem.mpr (List.mem_of_getElem? q)
      rw [h.1] at this; cases this
    match t, t', e, e' with
    | 0, 0, _, _ => rfl
    | 0, t' + 1, e, e' =>
      simp at e
      subst e
      exact (no (by simpa using e')).elim
    | t + 1, 0, e, e' =>
      simp at e'
      subst e'
      exact (no (by simpa using e)).elim
    | t + 1, t' + 1, e, e' => exact congrArg (· + 1) (okJ_inj (js := r) (j := j) h.2 (by simpa using e) (by simpa using e'))
theorem putO_len : ∀ (js : List (Option Nat)) (e ss : En), (putO e js ss).length = e.length
  | [], e, ss => by cases ss <;> rfl
  | some j :: js, e, [] => rfl
  | none :: js, e, [] => rfl
  | some j :: js, e, s :: ss => by rw [putO, putO_len, List.length_set]
  | none :: js, e, s :: ss => by rw [putO, putO_len]
theorem putO_out : ∀ {js : List (Option Nat)} {e ss : En} {j : Nat}, (∀ t : Nat, js[t]? ≠ some (some j)) → (putO e js ss)[j]? = e[j]?
  | [], e, ss, j, _ => by cases ss <;> rfl
  | some i :: js, e, [], j, _ => rfl
  | none :: js, e, [], j, _ => rfl
  | some i :: js, e, s :: ss, j, h => by
    rw [putO, putO_out fun t => by simpa using h (t + 1)]
    exact List.getElem?_set_ne fun q => h 0 (by simp [q])
  | none :: js, e, s :: ss, j, h => by rw [putO, putO_out fun t => by simpa using h (t + 1)]
theorem putO_in : ∀ {js : List (Option Nat)} {e ss : En} {j t : Nat}, okJ js = true → js[t]? = some (some j) → j < e.length → t < ss.length → (putO e js ss)[j]? = ss[t]?
  | [], e, ss, j, t, _, h, _, _ => by simp at h
  | some i :: js, e, [], j, t, _, _, _, h => by simp at h
  | none :: js, e, [], j, t, _, _, _, h => by simp at h
  | some i :: js, e, s :: ss, j, 0, ok, h, hl, _ => by
    simp at h
    subst h
    simp only [okJ, Bool.and_eq_true, Bool.not_eq_true'] at ok
    rw [putO, putO_out fun t q => by
      have : js.contains (some i) = true := List.contains_iff_mem.mpr (List.mem_of_getElem? q)
      rw [ok.1] at this; cases this]
    simp [hl]
  | some i :: js, e, s :: ss, j, t + 1, ok, h, hl, hs => by
    simp only [okJ, Bool.and_eq_true] at ok
    rw [putO, putO_in (t := t) ok.2 (by simpa using h) (by rw [List.length_set]; exact hl) (by simpa using hs)]
    simp
  | none :: js, e, s :: ss, j, 0, ok, h, hl, _ => by simp at h
  | none :: js, e, s :: ss, j, t + 1, ok, h, hl, hs => by
    rw [putO, putO_in (js := js) (t := t) ok (by simpa using h) hl (by simpa using hs)]
    simp
/-- one argument, seen -/
inductive ArgR (K : Frag) (G H : Hp) (L : Addr → Prop) (f : Fps) (fv : List Addr) (σ : L2.St) (e : En) : PM → V → AX → Prop
  | val {v : V} {d : D} : RepF K G H v d → ArgR K G H L f fv σ e .val v (d, none, none)
  | io {v : V} {d : D} {n j : Nat} : σ[j]? = some (some v) → e[j]? = some (some (.own n, d)) → RepO K G H (At H) n v d (f j) → ArgR K G H L f fv σ e (.io n) v (d, some j, none)
  | tm {v : V} {d : D} {n : Nat} {fq : List Addr} : RepO K G H (At H) n v d fq → (∀ p ∈ fq, p ∈ fv) → ArgR K G H L f fv σ e (.br n) v (d, none, none)
  | bo {v : V} {d : D} {n j : Nat} : RepO K G H (At H) n v d (f j) → ArgR K G H L f fv σ e (.br n) v (d, none, some j)
  | bl {v : V} {d : D} {n : Nat} {fq : List Addr} : RepO K G H (Rd H) n v d fq → (∀ p ∈ fq, L p) → ArgR K G H L f fv σ e (.br n) v (d, none, none)
section
variable {K : Frag} {G H : Hp} {L : Addr → Prop} {σ : L2.St} {e : En} {f : Fps}
theorem argAt_r (s : SR K G H L σ e f) {m : PM} {o : Opd} {v : V} {x : AX} {fq fv : List Addr} (r : OpdR K G H σ o v fq) (hs : ∀ p ∈ fq, p ∈ fv) (h : argAt e m o = some x) : ArgR K G H L f fv σ e m v x := by
  have pl : ∀ {n : Nat} {d : D} {fp : List Addr} {O : Addr → HO → Prop}, RepO K G H O n v d fp → (n = 0 ∨ isLeaf d = true) → RepF K G H v d := by
    intro n d fp O r h
    cases r with
    | frz r => exact r
    | leaf _ r => exact r
    | lst => rcases h with h | h <;> cases h
    | dck => rcases h with h | h <;> cases h
    | dct => rcases h with h | h <;> cases h
    | ins => rcases h with h | h <;> cases h
  cases m with
  | val =>
    cases o with
    | tmp n d =>
      simp only [argAt] at h
      split at h
      · rename_i hc; cases h; exact .val (pl r hc)
      · cases h
    | sl i =>
      obtain ⟨rfl, ev⟩ := r
      simp only [argAt] at h
      split at h
      · rename_i n d q
        obtain ⟨v', e', r'⟩ := s.slot i _ _ q
        rw [ev] at e'; cases e'
        split at h
        · rename_i hc; cases h; exact .val (pl r' hc)
        · cases h
      · rename_i n d q
        obtain ⟨v', e', _, fq, r', _⟩ := s.slot i _ _ q
        rw [ev] at e'; cases e'
        split at h
        · rename_i hc; cases h; exact .val (pl r' hc)
        · cases h
      · cases h
  | io n =>
    cases o with
    | tmp n d => cases h
    | sl i =>
      obtain ⟨rfl, ev⟩ := r
      simp only [argAt] at h
      split at h
      · rename_i n' d q
        obtain ⟨v', e', r'⟩ := s.slot i _ _ q
        rw [ev] at e'; cases e'
        split at h
        · rename_i hc; subst hc; cases h; exact .io ev q r'
        · cases h
      · cases h
  | br n =>
    cases o with
    | tmp m d =>
      simp only [argAt] at h
      split at h
      · rename_i hc; subst hc; cases h; exact .tm r hs
      · cases h
    | sl i =>
      obtain ⟨rfl, ev⟩ := r
      simp only [argAt] at h
      split at h
      · rename_i n' d q
        obtain ⟨v', e', r'⟩ := s.slot i _ _ q
        rw [ev] at e'; cases e'
        split at h
        · rename_i hc; subst hc; cases h; exact .bo r'
        · cases h
      · rename_i n' d q
        obtain ⟨v', e', _, fq, r', l⟩ := s.slot i _ _ q
        rw [ev] at e'; cases e'
        split at h
        · rename_i hc; subst hc; cases h; exact .bl r' l
        · cases h
      · cases h
theorem argsAt_r (s : SR K G H L σ e f) : ∀ {ms : List PM} {os : List Opd} {vs : List V} {xs : List AX} {fq fv : List Addr}, OpdsR K G H σ os vs fq → (∀ p ∈ fq, p ∈ fv) → argsAt e ms os = some xs →
    vs.length = ms.length ∧ xs.length = ms.length ∧ ∀ (t : Nat) (m : PM) (x : AX), ms[t]? = some m → xs[t]? = some x → ∃ v, vs[t]? = some v ∧ ArgR K G H L f fv σ e m v x
  | [], [], _, xs, _, _, .nil, _, h => by
    cases h
    exact ⟨rfl, rfl, fun t m x e => by simp at e⟩
  | [], _ :: _, _, xs, _, _, _, _, h => by cases h
  | _ :: _, [], _, xs, _, _, _, _, h => by cases h
  | m :: ms, o :: os, _, xs, _, fv, .cons (f1 := f1) (f2 := f2) r rs, hs, h => by
    obtain ⟨x, h1, h2⟩ := Option.bind_eq_some_iff.mp h
    obtain ⟨ys, h3, rfl⟩ := Option.map_eq_some_iff.mp h2
    obtain ⟨l1, l2, q⟩ := argsAt_r s rs (fun p hp => hs p (List.mem_append_right _ hp)) h3
    refine ⟨by simp [l1], by simp [l2], fun t m' x' e1 e2 => ?_⟩
    cases t with
    | zero =>
      simp at e1 e2
      subst e1; subst e2
      exact ⟨_, by simp, argAt_r s r (fun p hp => hs p (List.mem_append_left _ hp)) h1⟩
    | succ t =>
      obtain ⟨v, e3, a⟩ := q t m' x' (by simpa using e1) (by simpa using e2)
      exact ⟨v, by simpa using e3, a⟩
end
/-! ### the call, by states -/
def jAt (js : List (Option Nat)) (t : Nat) : Option Nat := js[t]?.getD none
theorem jAt_some {js : List (Option Nat)} {t j : Nat} : jAt js t = some j ↔ js[t]? = some (some j) := by
  unfold jAt
  cases e : js[t]? with
  | none => simp
  | some o => simp
/-- the callee's addresses -/
def inF (f : Fps) (js : List (Option Nat)) : Fps := fun t => match jAt js t with
  | some j => f j
  | none => []
/-- what the callee must leave alone -/
def inL (L : Addr → Prop) (f : Fps) (js : List (Option Nat)) (fv : List Addr) : Addr → Prop := fun p => L p ∨ p ∈ fv ∨ (Owns f p ∧ ¬ Owns (inF f js) p)
theorem inF_mem {f : Fps} {js : List (Option Nat)} {t : Nat} {p : Addr} (h : p ∈ inF f js t) : ∃ j, jAt js t = some j ∧ p ∈ f j := by
  unfold inF at h
  split at h
  · rename_i j e; exact ⟨j, e, h⟩
  · simp at h
section
variable {K : Frag} {G0 H0 G H : Hp} {L : Addr → Prop} {σ : L2.St} {e : En} {f : Fps} {fv : List Addr} {F : Addr → Prop}
theorem call_in {ms : List PM} {vs : List V} {xs : List AX} (a : Post K G0 H0 L σ F G H e f fv) (lv : vs.length = ms.length) (lx : xs.length = ms.length) (ok : okAX xs = true)
    (h : ∀ (t : Nat) (m : PM) (x : AX), ms[t]? = some m → xs[t]? = some x → ∃ v, vs[t]? = some v ∧ ArgR K G H L f fv σ e m v x) :
    SR K G H (inL L f (xs.map (·.2.1)) fv) (vs.map some) (entE ms (xs.map (·.1))) (inF f (xs.map (·.2.1))) := by
  have s := a.sr
  have ok' := ok
  unfold okAX at ok'
  rw [Bool.and_eq_true] at ok'
  obtain ⟨okj, okb⟩ := ok'
  have jx : ∀ {t j : Nat}, jAt (xs.map (·.2.1)) t = some j → ∃ x, xs[t]? = some x ∧ x.2.1 = some j := fun {t j} q => by
    rw [jAt_some, List.getElem?_map] at q
    obtain ⟨x, q1, q2⟩ := Option.map_eq_some_iff.mp q
    exact ⟨x, q1, q2⟩
  have inj : ∀ {t t' j : Nat}, jAt (xs.map (·.2.1)) t = some j → jAt (xs.map (·.2.1)) t' = some j → t = t' := fun q q' => okJ_inj okj (jAt_some.mp q) (jAt_some.mp q')
  have ent : ∀ {t : Nat} {m : Md} {d : D}, (entE ms (xs.map (·.1)))[t]? = some (some (m, d)) → ∃ pm x, ms[t]? = some pm ∧ xs[t]? = some x ∧ entM pm x.1 = some (m, d) := fun {t m d} q => by
    unfold entE at q
    rw [List.getElem?_zipWith] at q
    split at q
    · rename_i pm d' q1 q2
      rw [List.getElem?_map] at q2
      obtain ⟨x, q3, q4⟩ := Option.map_eq_some_iff.mp q2
      subst q4
      simp at q
      exact ⟨pm, x, q1, q3, q⟩
    · cases q
  have fin : ∀ {t : Nat} {x : AX}, xs[t]? = some x → inF f (xs.map (·.2.1)) t = (match x.2.1 with
    | some j => f j
    | none => []) := fun {t x} q => by
    have : jAt (xs.map (·.2.1)) t = x.2.1 := by
      unfold jAt
      rw [List.getElem?_map, q]
      rfl
    unfold inF
    rw [this]
  refine ⟨by unfold entE; rw [List.length_zipWith, List.length_map, List.length_map]; omega, fun t m d q => ?_, fun t p hp => ?_, fun t => ?_, fun t t' p n hp hp' => ?_, s.gh, fun t p hp => ?_, fun p hp => ?_, fun t p hp l => ?_⟩
  · obtain ⟨pm, x, q1, q2, q3⟩ := ent q
    obtain ⟨v, ev, ar⟩ := h t pm x q1 q2
    refine ⟨v, by rw [List.getElem?_map, ev]; rfl, ?_⟩
    rw [fin q2]
    cases ar with
    | val r => cases q3; exact .frz r
    | io e1 e2 r => cases q3; exact r
    | tm r hs =>
      cases q3
      exact ⟨rfl, _, r.mono (Tups.refl _) (Le.refl _) (fun _ _ _ e => .inl e) fun _ _ _ e => e, fun p hp => .inr (.inl (hs p hp))⟩
    | @bo _ _ n j r =>
      cases q3
      refine ⟨rfl, _, r.mono (Tups.refl _) (Le.refl _) (fun _ _ _ e => .inl e) fun _ _ _ e => e, fun p hp => .inr (.inr ⟨⟨j, hp⟩, ?_⟩)⟩
      rintro ⟨t', hp'⟩
      obtain ⟨j', e1, e2⟩ := inF_mem hp'
      have hm := List.all_eq_true.mp okb _ (List.mem_of_getElem? q2)
      have nj : j ≠ j' := fun z => by
        subst z
        have : (xs.map (·.2.1)).contains (some j) = true := List.contains_iff_mem.mpr (List.mem_of_getElem? (jAt_some.mp e1))
        simp only [this] at hm
        cases hm
      exact s.dj j j' p nj hp e2
    | bl r l =>
      cases q3
      exact ⟨rfl, _, r, fun p hp => .inl (l p hp)⟩
  · obtain ⟨j, e1, hp⟩ := inF_mem hp
    obtain ⟨x, q2, q4⟩ := jx e1
    have lt : t < ms.length := by rw [← lx]; exact lt_of_get q2
    obtain ⟨v, ev, ar⟩ := h t _ x (List.getElem?_eq_getElem lt) q2
    have go : ∀ pm, ms[t]? = some pm → ArgR K G H L f fv σ e pm v x → ∃ n d, (entE ms (xs.map (·.1)))[t]? = some (some (.own n, d)) := by
      intro pm q1 ar
      cases ar with
      | @io _ d0 n0 j0 e1 e2 r =>
        refine ⟨n0, d0, ?_⟩
        unfold entE
        rw [List.getElem?_zipWith, q1, List.getElem?_map, q2]
        rfl
      | val => cases q4
      | tm => cases q4
      | bo => cases q4
      | bl => cases q4
    exact go _ (List.getElem?_eq_getElem lt) ar
  · unfold inF
    split
    · exact s.nd _
    · exact List.nodup_nil
  · obtain ⟨j, e1, hp⟩ := inF_mem hp
    obtain ⟨j', e1', hp'⟩ := inF_mem hp'
    by_cases z : j = j'
    · subst z; exact n (inj e1 e1')
    · exact s.dj j j' p z hp hp'
  · obtain ⟨j, e1, hp⟩ := inF_mem hp
    exact s.gf j p hp
  · rcases hp with hp | hp | ⟨hp, _⟩
    · exact s.lk p hp
    · exact a.al p hp
    · obtain ⟨o, e, _⟩ := s.fm p hp
      exact ⟨o, e⟩
  · obtain ⟨j, e1, hp'⟩ := inF_mem hp
    rcases l with l | l | ⟨_, l⟩
    · exact s.lf j p hp' l
    · exact a.dj p l ⟨j, hp'⟩
    · exact l ⟨t, hp⟩
theorem call_out {G2 H2 : Hp} {ms : List PM} {vs : List V} {xs : List AX} {os : List D} {f2 : Fps} {fv2 : List Addr} (a : Post K G0 H0 L σ F G H e f fv) (lv : vs.length = ms.length) (lx : xs.length = ms.length) (ok : okAX xs = true)
    (h : ∀ (t : Nat) (m : PM) (x : AX), ms[t]? = some m → xs[t]? = some x → ∃ v, vs[t]? = some v ∧ ArgR K G H L f fv σ e m v x)
    (b : Post K G H (inL L f (xs.map (·.2.1)) fv) (vs.map some) (Owns (inF f (xs.map (·.2.1)))) G2 H2 (outE ms os) f2 fv2) :
    ∃ f3, Post K G H L σ (Owns f) G2 H2 (putO e (xs.map (·.2.1)) (outE ms os)) f3 fv2 := by
  have s := a.sr
  have okj : okJ (xs.map (·.2.1)) = true := by
    unfold okAX at ok
    rw [Bool.and_eq_true] at ok
    exact ok.1
  have inj : ∀ {t t' j : Nat}, jAt (xs.map (·.2.1)) t = some j → jAt (xs.map (·.2.1)) t' = some j → t = t' := fun q q' => okJ_inj okj (jAt_some.mp q) (jAt_some.mp q')
  have jx : ∀ {t j : Nat}, jAt (xs.map (·.2.1)) t = some j → ∃ x, xs[t]? = some x ∧ x.2.1 = some j := fun {t j} q => by
    rw [jAt_some, List.getElem?_map] at q
    obtain ⟨x, q1, q2⟩ := Option.map_eq_some_iff.mp q
    exact ⟨x, q1, q2⟩
  have ar : ∀ {t j : Nat}, jAt (xs.map (·.2.1)) t = some j → ∃ n v d, ms[t]? = some (.io n) ∧ vs[t]? = some v ∧ σ[j]? = some (some v) ∧ e[j]? = some (some (.own n, d)) := fun {t j} q => by
    obtain ⟨x, q2, q4⟩ := jx q
    have lt : t < ms.length := by rw [← lx]; exact lt_of_get q2
    have q1 : ms[t]? = some ms[t] := List.getElem?_eq_getElem lt
    obtain ⟨v, ev, ar⟩ := h t _ x q1 q2
    generalize ms[t] = pm at q1 ar
    cases ar with
    | io e1 e2 r => cases q4; exact ⟨_, _, _, q1, ev, e1, e2⟩
    | val => cases q4
    | tm => cases q4
    | bo => cases q4
    | bl => cases q4
  have sub : ∀ {p}, Owns (inF f (xs.map (·.2.1))) p → Owns f p := fun {p} ⟨t, hp⟩ => let ⟨j, _, hp⟩ := inF_mem hp; ⟨j, hp⟩
  -- slots that no argument writes
  have rest : ∀ {i : Nat} {p : Addr}, (∀ t, jAt (xs.map (·.2.1)) t ≠ some i) → p ∈ f i → ¬ Owns (inF f (xs.map (·.2.1))) p := fun {i p} hi hp ⟨t, hp'⟩ => by
    obtain ⟨j, e1, hp2⟩ := inF_mem hp'
    exact s.dj i j p (fun z => hi t (by rw [z]; exact e1)) hp hp2
  have al : ∀ {p : Addr}, Owns f p → H p ≠ none := fun {p} hp z => by
    obtain ⟨o, e, _⟩ := s.fm p hp
    rw [z] at e; cases e
  have new : ∀ {p : Addr}, Owns f2 p ∨ p ∈ fv2 → Owns (inF f (xs.map (·.2.1))) p ∨ H p = none := fun {p} hp => b.dom p hp
  let f3 : Fps := fun i => match (List.range (xs.map (·.2.1)).length).find? (fun t => jAt (xs.map (·.2.1)) t == some i) with
    | some t => f2 t
    | none => f i
  have f3c : ∀ i, (∃ t, jAt (xs.map (·.2.1)) t = some i ∧ f3 i = f2 t) ∨ ((∀ t, jAt (xs.map (·.2.1)) t ≠ some i) ∧ f3 i = f i) := fun i => by
    show (∃ t, _ ∧ (match (List.range (xs.map (·.2.1)).length).find? (fun t => jAt (xs.map (·.2.1)) t == some i) with
    | some t => f2 t
    | none => f i) = f2 t) ∨ (_ ∧ (match (List.range (xs.map (·.2.1)).length).find? (fun t => jAt (xs.map (·.2.1)) t == some i) with
    | some t => f2 t
    | none => f i) = f i)
    cases q : (List.range (xs.map (·.2.1)).length).find? (fun t => jAt (xs.map (·.2.1)) t == some i) with
    | some t => exact .inl ⟨t, by simpa using List.find?_some q, rfl⟩
    | none =>
      refine .inr ⟨fun t z => ?_, rfl⟩
      have := List.find?_eq_none.mp q t (List.mem_range.mpr (lt_of_get (jAt_some.mp z)))
      simp [z] at this
  have s2 := b.sr
  have keepG : ∀ {i : Nat} {p : Addr}, (∀ t, jAt (xs.map (·.2.1)) t ≠ some i) → p ∈ f i → G2 p = none := fun {i p} hi hp => by
    cases q : G2 p with
    | none => rfl
    | some o =>
      rcases b.stp.gn p o q with z | z | z
      · rw [s.gf i p hp] at z; cases z
      · exact (rest hi hp z).elim
      · exact (al ⟨i, hp⟩ z).elim
  have tp := b.stp.tups (fun p hp => s.fm p (sub hp))
  refine ⟨f3, ⟨⟨fun p o q n => b.stp.keep p o q fun z => n (sub z), b.stp.dom, b.stp.gm, fun p o q => (b.stp.gn p o q).imp id fun z => z.imp sub id⟩, ⟨by rw [putO_len]; exact s.len, fun i m d q => ?_, fun i p hp => ?_, fun i => ?_, fun i j p n hp hp' => ?_, s2.gh, fun i p hp => ?_, fun p l => ?_, fun i p hp l => ?_⟩, b.nd, fun p hp z => ?_, b.gf, b.al, fun p hp => ?_, fun p hp l => b.nl p hp (.inl l)⟩⟩
  · rcases f3c i with ⟨t, q1, q2⟩ | ⟨q1, q2⟩
    · obtain ⟨n, v, d0, e1, e2, e3, e4⟩ := ar q1
      rw [putO_in okj (jAt_some.mp q1) (lt_of_get e4) (by rw [outE_len]; exact lt_of_get e1)] at q
      obtain ⟨v', e5, r⟩ := s2.slot t m d q
      rw [List.getElem?_map, e2] at e5
      cases e5
      refine ⟨v, e3, ?_⟩
      rw [q2]
      obtain ⟨n', e6, _⟩ := outE_own q
      subst e6
      exact r
    · rw [putO_out fun t z => q1 t (jAt_some.mpr z)] at q
      obtain ⟨v, e1, r⟩ := s.slot i m d q
      refine ⟨v, e1, ?_⟩
      rw [q2]
      have kp : ∀ p ∈ f i, ∀ o, H p = some o → H2 p = some o := fun p hp o e => b.stp.keep p o e (rest q1 hp)
      cases m with
      | own n => exact RepO.mono tp b.stp.gm r kp kp
      | lok n =>
        obtain ⟨e0, fq, r, l⟩ := r
        have nq : ∀ p ∈ fq, ¬ Owns (inF f (xs.map (·.2.1))) p := fun p hp z => by
          obtain ⟨j, hj⟩ := sub z
          exact s.lf j p hj (l p hp)
        refine ⟨e0, fq, RepO.mono tp b.stp.gm r (fun p hp o e => ?_) (fun p hp o e => b.stp.keep p o e (nq p hp)), l⟩
        rcases e with e | ⟨y, e⟩
        · exact .inl (b.stp.keep p o e (nq p hp))
        · exact .inr ⟨y, b.stp.keep p _ e (nq p hp)⟩
  · rcases f3c i with ⟨t, q1, q2⟩ | ⟨q1, q2⟩
    · rw [q2] at hp
      obtain ⟨n, d, q⟩ := s2.own t p hp
      obtain ⟨n', v, d0, e1, e2, e3, e4⟩ := ar q1
      exact ⟨n, d, by rw [putO_in okj (jAt_some.mp q1) (lt_of_get e4) (by rw [outE_len]; exact lt_of_get e1)]; exact q⟩
    · rw [q2] at hp
      obtain ⟨n, d, q⟩ := s.own i p hp
      exact ⟨n, d, by rw [putO_out fun t z => q1 t (jAt_some.mpr z)]; exact q⟩
  · rcases f3c i with ⟨t, q1, q2⟩ | ⟨q1, q2⟩
    · rw [q2]; exact s2.nd t
    · rw [q2]; exact s.nd i
  · have mix : ∀ {i t : Nat} {p : Addr}, (∀ t, jAt (xs.map (·.2.1)) t ≠ some i) → p ∈ f i → p ∈ f2 t → False := fun {i t p} hi hp hp' => by
      rcases new (.inl ⟨t, hp'⟩) with z | z
      · exact rest hi hp z
      · exact al ⟨i, hp⟩ z
    rcases f3c i with ⟨t, q1, q2⟩ | ⟨q1, q2⟩ <;> rcases f3c j with ⟨t', r1, r2⟩ | ⟨r1, r2⟩
    · rw [q2] at hp; rw [r2] at hp'
      refine s2.dj t t' p (fun z => ?_) hp hp'
      subst z
      rw [q1] at r1
      exact n (Option.some.inj r1)
    · rw [q2] at hp; rw [r2] at hp'
      exact mix r1 hp' hp
    · rw [q2] at hp; rw [r2] at hp'
      exact mix q1 hp hp'
    · rw [q2] at hp; rw [r2] at hp'
      exact s.dj i j p n hp hp'
  · rcases f3c i with ⟨t, q1, q2⟩ | ⟨q1, q2⟩
    · rw [q2] at hp; exact s2.gf t p hp
    · rw [q2] at hp; exact keepG q1 hp
  · obtain ⟨o, q⟩ := s.lk p l
    exact ⟨o, b.stp.keep p o q fun z => by
      obtain ⟨j, hj⟩ := sub z
      exact s.lf j p hj l⟩
  · rcases f3c i with ⟨t, q1, q2⟩ | ⟨q1, q2⟩
    · rw [q2] at hp; exact s2.lf t p hp (.inl l)
    · rw [q2] at hp; exact s.lf i p hp l
  · obtain ⟨i, hi⟩ := z
    rcases f3c i with ⟨t, q1, q2⟩ | ⟨q1, q2⟩
    · rw [q2] at hi; exact b.dj p hp ⟨t, hi⟩
    · rw [q2] at hi
      rcases new (.inr hp) with z | z
      · exact rest q1 hi z
      · exact al ⟨i, hi⟩ z
  · rcases hp with ⟨i, hi⟩ | hp
    · rcases f3c i with ⟨t, q1, q2⟩ | ⟨q1, q2⟩
      · rw [q2] at hi
        exact (new (.inl ⟨t, hi⟩)).imp sub id
      · rw [q2] at hi
        exact .inl ⟨i, hi⟩
    · exact (new (.inr hp)).imp sub id
end
/-! ### the rule -/
/-- a def that may be called by its name -/
structure CalS (P : Program) (w : World) (K : Frag) (mg : Str → Option Value) (base : Heap) (k : Nat) (x : Str) (F : FS) : Prop where
  ex : ∃ (f : Addr) (fd : FuncData) (ps : List Str), FnG P w K mg base k f fd ps (spV K F) ∧ mg x = some (.ref f) ∧ PySem.W.keepIn K (.ref f) = true ∧ Binds K fd ps []
theorem CalS.mono {P : Program} {w : World} {K : Frag} {mg : Str → Option Value} {base : Heap} {j k : Nat} {x : Str} {F : FS} (c : CalS P w K mg base j x F) (h : j ≤ k) : CalS P w K mg base k x F := by
  obtain ⟨f, fd, ps, q, r⟩ := c.ex
  exact ⟨f, fd, ps, q.mono h, r⟩
section
variable {X : Cx} {F : FS} {wa : WA} {k : Nat} {x : Str} {p pos : Pos} {e : Expr} {es : List Expr}
theorem call_rd {σ : L2.St} {H : Hp} {Q : VK} (h : rdE X.K (wCall F wa) σ H Q) : rdA X.K wa σ H fun vs H1 => spV X.K F vs H1 Q fun _ _ _ => False := by
  obtain ⟨G, L, env, f, P, s, h, q⟩ := h
  refine ⟨G, L, env, f, _, s, h, ?_⟩
  rintro os e1 ⟨xs, h1, ok, h2⟩ vs G1 H1 f1 fv1 p1 r1
  obtain ⟨lv, lx, ar⟩ := argsAt_r p1.sr r1 (fun p hp => hp) h1
  refine ⟨G1, _, xs.map (·.1), _, _, lv, call_in p1 lv lx ok ar, h2, ?_⟩
  rintro k z outs hR v G2 H2 f2 fv2 b ro
  obtain ⟨f3, c⟩ := call_out p1 lv lx ok ar b
  have t := p1.seq c
  have t' : Post X.K G H L σ (Owns f) G2 H2 (putO e1 (xs.map (·.2.1)) (outE F.ms outs)) f3 fv2 := t.drop (fun p hp => List.mem_append_right _ hp) (List.nodup_append.mp t.nd).2.1
  exact q k z _ hR v G2 H2 f3 fv2 t' ro
theorem snd_call (c : CalS X.prog X.w X.K X.mg X.base k x F) (room : Room k X.A) (gu : X.A.guards = some []) (hg : Gl X x) (ha : PA X (e :: es) (rdA X.K wa)) (hdb : (x == ("__debug__" : Str)) = false)
    (he : starEach (e :: es) X.env = (false, eval e X.env) :: starEach es X.env) (hpl : (backTo pos (starEach es X.env)).any (·.1) = false) : PE X (.Call (.Name x p) (e :: es) [] pos) (rdE X.K (wCall F wa)) := by
  obtain ⟨f, fd, ps, fn, hm, kp, bd⟩ := c.ex
  exact pe_imp (pe_callG fn room gu hg hm kp bd ha hdb he hpl) fun σ H Q h => call_rd h
end
end Sq
/-! Sq18: a law's end -/
namespace Sq
open PySem PySem.Spec PyProof.Rows L2
/-- what a law says of a script -/
def lawS (n : Nat) : FS where
  ms := [.val]
  sp := fun ds R => ∃ ns : List Int, ds = [.list (ns.map .int)] ∧ ns.length ≤ n ∧ (∀ z ∈ ns, Builtin.Int.intBits z ≤ 1048576) ∧ R 0 (.bool true) []
theorem law_in {K : Frag} {n : Nat} {H : Hp} {a : Addr} {ns : List Int} (hn : n ≤ sizeLine) (hl : ns.length ≤ n) (hb : ∀ z ∈ ns, Builtin.Int.intBits z ≤ 1048576) (only : Only H) (sq : SqL K H a (ns.map V.int)) :
    spV K (lawS n) [.ref a] H (fun v _ => v = .bl true) fun _ _ _ => False := by
  have z : (ns.map V.int).length ≤ sizeLine := by rw [List.length_map]; omega
  have go : ∀ G : Hp, (∀ p o, G p = some o → Rd H p o) → RepF K G H (.ref a) (.list (ns.map .int)) → spV K (lawS n) [.ref a] H (fun v _ => v = .bl true) fun _ _ _ => False := by
    intro G gh r
    refine ⟨G, fun _ => False, [.list (ns.map .int)], fun _ => [], fun k z outs => k = 0 ∧ z = .bool true ∧ outs = [], rfl, ⟨rfl, ?_, fun _ _ h => absurd h (by simp), fun _ => List.nodup_nil, fun _ _ _ _ h => absurd h (by simp), gh, fun _ _ h => absurd h (by simp), fun _ h => h.elim, fun _ _ h => absurd h (by simp)⟩, ⟨ns, rfl, hl, hb, rfl, rfl, rfl⟩, ?_⟩
    · intro i m d e
      match i, e with
      | 0, e =>
        have e' : (some (some (Md.own 0, PyData.list (ns.map .int))) : Option Slot) = some (some (m, d)) := e
        cases e'
        exact ⟨.ref a, rfl, .frz r⟩
      | i + 1, e => simp [entE, lawS] at e
    · rintro k z outs ⟨rfl, rfl, rfl⟩ v G' H' f' fv _ ro
      exact (RepO.x ro).bl
  rcases sq with r | k
  · refine go (fun p => match H p with
      | some (.frz _ (.lst xs)) => some (.lst xs)
      | _ => none) (fun p o e => ?_) (.lst (vs := ns.map V.int) ?_ z (.ofInts ns))
    · split at e
      · rename_i ob xs q; cases e; exact .inr ⟨ob, q⟩
      · cases e
    · rcases r with r | ⟨ob, r⟩
      · rcases only a with q | ⟨_, _, q⟩ <;> (rw [r] at q; cases q)
      · simp only [r]
  · exact go (fun _ => none) (fun p o e => by cases e) (.lstK k z (.ofInts ns))
/-- a law's def, called behind the module's top -/
theorem law_callG {P : Program} {w : World} {K : Frag} {mg mb : Str → Option Value} {k : Nat} {fa a : Addr} {fd : FuncData} {x : Str} {sp : Sp} {s : Shared} {vs : List Value} {ns : List Int}
    (inK : K.In s.heap) (globs : s.heap.Ns mainGlobals mg) (bns : s.heap.Ns builtinsNs mb) (boot : ∀ x : Str, x ≠ "__name__" → mb x = bootBuiltins x) (free : s.heap.NoLimit) (gens : s.gens = #[])
    (at_a : s.heap.get? a = some { cls := .type "list", data := .seq vs.toArray }) (whole : IntsAre vs ns) (short : ns.length ≤ sizeLine) (room : Room k callerA)
    (F : ∀ base : Heap, K.In base → base.Ns mainGlobals mg → FnG P w K mg base k fa fd [x] sp) (bd : ∀ (s : Shared) (u : Value), BindsTo s fd ⟨[u], []⟩ [(x, u)])
    (asked : ∀ H : Hp, Only H → SqL K H a (ns.map V.int) → sp [.ref a] H (fun v _ => v = .bl true) fun _ _ _ => False) :
    codeAny (model P w) callerA (.call (.ref fa) ⟨[.ref a], []⟩) (fun r s' => r = .ok (.ret (.bool true)) ∧ OldK s.heap s'.heap ∧ s'.os = s.os ∧ AllBare s'.gens) s := by
  have vals := vals_ints whole
  have lv := whole.length
  have from_H : ∀ H : Hp, Only H → SqL K H a (ns.map V.int) → HOk P w H s.heap → (∀ b, H b ≠ none → b = a ∧ K.lookup b = none) →
      codeAny (model P w) callerA (.call (.ref fa) ⟨[.ref a], []⟩) (fun r s' => r = .ok (.ret (.bool true)) ∧ OldK s.heap s'.heap ∧ s'.os = s.os ∧ AllBare s'.gens) s := by
    intro H only sq ok tracked
    have hid : ∀ {b : Addr} {o : Obj}, s.heap.get? b = some o → H b = none → (hidT s.heap H).get? b = some o := fun q n => hidT_get q n
    have notSeq : ∀ {b : Addr} {o : Obj} {es : Array DictEntry} {m : Nat}, s.heap.get? b = some o → o.data = .dict es m → H b = none := by
      intro b o es m q d
      by_cases n : H b = none
      · exact n
      · obtain ⟨rfl, _⟩ := tracked b n
        rw [at_a] at q
        cases q
        cases (show Data.seq vs.toArray _ = Data.dict es m from d)
    have keepNs : ∀ {b : Addr} {m : Str → Option Value}, s.heap.Ns b m → (hidT s.heap H).Ns b m := by
      rintro b m ⟨o, es, ep, q, d, r⟩
      exact ⟨o, es, ep, hid q (notSeq q d), d, r⟩
    have KB : K.In (hidT s.heap H) := by
      intro b o q
      refine hid (inK b o q) ?_
      by_cases n : H b = none
      · exact n
      · rw [(tracked b n).2] at q; cases q
    have md : Mod K mg (hidT s.heap H) := ⟨KB, keepNs globs, ⟨mb, keepNs bns, boot⟩, let ⟨c, c1, c2⟩ := free; ⟨c, keepNs c1, c2⟩⟩
    have e0 : Env0 P w K mg (hidT s.heap H) callerA [] s H := ⟨rfl, md, fun b o q => of_hidT q, Nat.le_of_eq (hidT_size _ _), trivial, fun b hb => absurd (show b ∈ ([] : List Addr) from hb) (by simp), ok, .of_eq gens⟩
    refine codeAny_mono ((F _ KB (keepNs globs)).run callerA [] s H ⟨[.ref a], []⟩ [.ref a] [.ref a] _ room rfl e0 (bd s (.ref a)) (.cons rfl .nil) (asked H only sq)) ?_
    intro r s' q
    match r, q with
    | .ok (.ret u), ⟨v, H', os, bare, un, ok', rel, q⟩ =>
      have q : v = .bl true := q
      subst q
      obtain rfl : u = Value.bool true := rel
      refine ⟨rfl, OldK.of_keep (fun b o q => ?_), os, bare⟩
      rcases only b with n | ⟨ob, xs, n⟩
      · exact un.keep b o q n (fun z => absurd (show b ∈ ([] : List Addr) from z) (by simp)) (by simp)
      · have q1 := (ok b _ n).1
        have q2 := (ok' b _ (un.frzs b ob _ n)).1
        rw [q] at q1
        cases q1
        exact q2
  cases hk : K.lookup a with
  | some o =>
    have q := inK a o hk
    rw [at_a] at q
    cases q
    exact from_H (fun _ => none) (fun _ => .inl rfl) (.inr ⟨_, vs.toArray, _, hk, rfl, rfl, rfl, by rw [List.size_toArray, lv]; exact short, by simpa using vals⟩) (fun b u z => absurd (show (none : Option HO) = some u from z) (by simp)) fun b z => absurd rfl z
  | none =>
    let H : Hp := fun b => if b = a then some (.frz { cls := .type "list", data := .seq vs.toArray } (.lst (ns.map V.int))) else none
    have at_H : H a = some (.frz { cls := .type "list", data := .seq vs.toArray } (.lst (ns.map V.int))) := if_pos rfl
    have off : ∀ b, b ≠ a → H b = none := fun b n => if_neg n
    refine from_H H (fun b => ?_) (.inl (.inr ⟨_, at_H⟩)) (fun b u z => ?_) fun b z => ?_
    · by_cases n : b = a
      · subst n; exact .inr ⟨_, _, at_H⟩
      · exact .inl (off b n)
    · by_cases n : b = a
      · subst n
        rw [at_H] at z
        cases z
        exact ⟨at_a, by rw [List.length_map]; exact short, vs, _, vals, at_a⟩
      · rw [off b n] at z; cases z
    · by_cases n : b = a
      · subst n; exact ⟨rfl, hk⟩
      · exact absurd (off b n) z
/-- the goal behind the head -/
theorem walkG {l : PySem.W.OpenLaw} {n k : Nat} {q : Program} {loose : List Str} {XP : (Str → Option Value) → Heap → Prop} {YP : World → Heap → Prop} {d : DefRec} {K : Params → Frag} {x : Str} (hn : l.most = some n) (hn2 : n ≤ sizeLine) (hdf : d.params.defaults = []) (room : Room k callerA)
    (hY : ∀ (w : World) (h : Heap), YP w h → (K w.params).In h)
    (F : ∀ (w : World) (mg : Str → Option Value) (fa : Addr) (h : Heap), (K w.params).In h → h.Ns mainGlobals mg → mg d.name = some (.ref fa) →
      ∃ fd : FuncData, (∀ (s : Shared) (u : Value), BindsTo s fd ⟨[u], []⟩ [(x, u)]) ∧ ∀ base : Heap, (K w.params).In base → base.Ns mainGlobals mg → FnG l.prog w (K w.params) mg base k fa fd [x] (spV (K w.params) (lawS n))) :
    PySem.W.WalkO q loose XP YP l.row.toRowW d [] (fun f vs => PySem.call f vs) := by
  refine Att.attach_callB hn hdf ?_
  intro w s0 s mg mb fa o pm cd doc a vs ns G Y _ _ _ hmg at_a whole short bits gens
  have inK := hY w _ Y
  obtain ⟨fd, bd, hF⟩ := F w mg fa _ inK G.T.g hmg
  exact law_callG inK G.T.g G.T.b G.T.builtins G.T.nolimit gens at_a whole (Nat.le_trans short hn2) room hF bd fun H only sq => law_in hn2 short bits only sq
end Sq
/-! Sq19: zip of two; names of things -/
namespace Sq
open PySem PySem.Spec PyProof.Rows L2
def starK : Nat → D → (Bool → List D → Prop) → Prop
  | _, .tuple ds, Q => Q true ds
  | n, .list ds, Q => n ≤ 1 ∧ Q false ds
  | _, _, _ => False
/-- as itemsD, and whether it is a tuple -/
def itemsK (env : En) : Opd → (Bool → List D → Prop) → Prop
  | .tmp n d, Q => starK n d Q
  | .sl i, Q => ∃ d, env[i]? = some (some (.own 0, d)) ∧ starK 0 d Q
theorem items_opdK {K : Frag} {G0 H0 G H : Hp} {L : Addr → Prop} {σ : L2.St} {F : Addr → Prop} {env : En} {f : Fps} {fv : List Addr} (a : Post K G0 H0 L σ F G H env f fv) {o : Opd} {v : V} {fo : List Addr} (r : OpdR K G H σ o v fo) {Q : Bool → List D → Prop} (h : itemsK env o Q) :
    ∃ p vs ds t, v = .ref p ∧ vs.length ≤ sizeLine ∧ RepFs K G H vs ds ∧ Q t ds ∧ ((t = true ∧ SqT K H p vs) ∨ (t = false ∧ ∀ G2 H2, Sty G H fo G2 H2 → SqL K H2 p vs)) := by
  have frozen : ∀ {v : V} {d : D}, RepF K G H v d → starK 0 d Q → ∃ p vs ds t, v = .ref p ∧ vs.length ≤ sizeLine ∧ RepFs K G H vs ds ∧ Q t ds ∧ ((t = true ∧ SqT K H p vs) ∨ (t = false ∧ ∀ G2 H2, Sty G H fo G2 H2 → SqL K H2 p vs)) := by
    intro v d r h
    cases r with
    | tup h1 z rs => exact ⟨_, _, _, true, rfl, z, rs, h, .inl ⟨rfl, h1⟩⟩
    | lst h1 z rs => exact ⟨_, _, _, false, rfl, z, rs, h.2, .inr ⟨rfl, fun G2 H2 st => .inl (st.2.2.1 _ _ (st.2.1 _ _ h1))⟩⟩
    | lstK h1 z rs => exact ⟨_, _, _, false, rfl, z, rs, h.2, .inr ⟨rfl, fun G2 H2 st => .inr h1⟩⟩
    | non => exact h.elim
    | bl b => exact h.elim
    | int i => exact h.elim
    | str x => exact h.elim
    | dck _ _ _ _ _ => exact h.elim
    | dct _ _ _ _ _ => exact h.elim
    | ins _ _ _ _ _ => exact h.elim
  cases o with
  | sl i =>
    obtain ⟨d, e, h⟩ := h
    obtain ⟨_, e1⟩ := r
    obtain ⟨v', e2, r2⟩ := a.sr.slot i _ _ e
    rw [e1] at e2
    cases e2
    exact frozen (RepO.plain r2).1 h
  | tmp n d =>
    have r' : RepO K G H (At H) n v d fo := r
    have h' : starK n d Q := h
    clear r h
    cases r' with
    | frz q => exact frozen q h'
    | leaf hl q =>
      refine frozen q ?_
      cases d <;> first | exact h' | cases hl
    | @lst n p vs ds fp h1 z rs =>
      obtain ⟨hn, h2⟩ := h'
      have hn0 : n = 0 := by omega
      subst hn0
      obtain ⟨rs, e0⟩ := ROs.plain rs
      exact ⟨_, _, _, false, rfl, z, rs, h2, .inr ⟨rfl, fun G2 H2 st => .inl (.inl (st.2.2.2 _ (by simp) _ h1))⟩⟩
    | dck _ _ _ _ _ => exact h'.elim
    | dct _ _ _ _ _ => exact h'.elim
    | ins _ _ _ _ _ => exact h'.elim
def zipL (xs ys : List D) : List D := List.zipWith (fun a b => .tuple [a, b]) xs ys
section
variable {K : Frag} {G H : Hp}
theorem zipL_get {xs ys : List D} {i : Nat} {x y : D} (h : xs[i]? = some x) (k : ys[i]? = some y) : (zipL xs ys)[i]? = some (.tuple [x, y]) := by
  unfold zipL
  rw [List.getElem?_zipWith, h, k]
theorem items_zip {fp : List Addr} {a b : Addr} {xs ys : List V} {ds es : List D} {J : It} (S : Hp → Addr → List V → Prop)
    (J1 : ∀ i H, (∃ (xs ys : List V) (x y : V), S H a xs ∧ S H b ys ∧ xs[i]? = some x ∧ ys[i]? = some y) → J.go i H)
    (J2 : ∀ i H v H', J.yld i H v H' → ∃ T x y, v = .ref T ∧ H T = none ∧ H' = upd H T (.tup [x, y]) ∧ (∀ xs, S H a xs → xs[i]? = some x) ∧ ∀ ys, S H b ys → ys[i]? = some y)
    (J3 : ∀ i H, (∃ xs ys : List V, S H a xs ∧ S H b ys ∧ (xs.length ≤ i ∨ ys.length ≤ i)) → J.stop i H)
    (ha : ∀ G2 H2, Sty G H fp G2 H2 → S H2 a xs) (hb : ∀ G2 H2, Sty G H fp G2 H2 → S H2 b ys) (z : xs.length ≤ sizeLine) (ra : RepFs K G H xs ds) (rb : RepFs K G H ys es) : ItemsOk K G H fp J (zipL ds es) := by
  have e1 := ra.length
  have e2 := rb.length
  have l : (zipL ds es).length = min ds.length es.length := by simp [zipL]
  have two : 2 ≤ sizeLine := by decide
  refine ⟨by rw [l]; omega, fun H2 => S H2 a xs ∧ S H2 b ys, J.yld, ⟨fun i H2 hi q => ?_, fun H2 q => ?_, fun i H x H' _ _ y => y⟩, fun G2 H2 st => ⟨ha G2 H2 st, hb G2 H2 st⟩, ?_⟩
  · rw [l] at hi
    have h1 : i < xs.length := by omega
    have h2 : i < ys.length := by omega
    exact J1 i H2 ⟨xs, ys, xs[i], ys[i], q.1, q.2, by simp [h1], by simp [h2]⟩
  · refine J3 _ H2 ⟨xs, ys, q.1, q.2, ?_⟩
    rw [l]
    omega
  · intro i G2 H2 x H3 st hy
    obtain ⟨T, u, w, rfl, hT, rfl, hu, hw⟩ := J2 i H2 x H3 hy
    obtain ⟨d, ed, rd⟩ := ra.getV (hu xs (ha G2 H2 st))
    obtain ⟨d', ed', rd'⟩ := rb.getV (hw ys (hb G2 H2 st))
    refine ⟨le_upd hT, _, zipL_get ed ed', ?_⟩
    have m : ∀ {v : V} {d : D}, RepF K G H v d → RepF K G2 (upd H2 T (.tup [u, w])) v d := fun r => (r.mono st.1 st.2.1).mono (Tups.of_le (le_upd hT)) (Le.refl _)
    exact .tup (SqT.of upd_same) two (.cons (m rd) (.cons (m rd') .nil))
end
def wiZip (a b : WO) : WI := fun env Q => a env fun oa e1 => b e1 fun ob e2 => itemsK e2 oa fun t xs => itemsK e2 ob fun t' ys => t = t' ∧ Q (zipL xs ys) e2
section
variable {X : Cx} {a b : Expr} {p pos tpos : Pos} {elts : List Expr} {kk : Nat}
theorem snd_zipI {wa wb : WO} (hg : Gl X "zip") (hm : X.mg "zip" = none) (ha : PE X a (rdO X.K wa)) (hb : PE X b (rdO X.K wb)) (hs : starEach [a, b] X.env = (false, eval a X.env) :: starEach [b] X.env) (hs2 : starEach [b] X.env = [(false, eval b X.env)]) (hpl : (backTo pos (starEach [b] X.env)).any (·.1) = false) :
    PI X (.Tuple elts kk tpos) (.Call (.Name "zip" p) [a, b] [] pos) (rdI X.K (wiZip wa wb)) :=
  pi_imp (RZ.pi_zipA hg hm (pa_cons ha (pa_cons hb pa_nil (by rw [hs2]; rfl)) hs) hs hpl) fun σ H R ⟨G, L, env, f, P, sr, h, q⟩ => by
    refine ⟨G, L, env, f, _, sr, h, fun oa e1 h1 va G1 H1 f1 fa p1 r1 => ?_⟩
    refine ⟨G1, L, e1, f1, _, p1.sr, h1, fun ob e2 h2 vb G2 H2 f2 fb p2 r2 => ?_⟩
    have p12 := p1.seq p2
    obtain ⟨x, xs, ds, t, rfl, z1, ra, h3, k1⟩ := items_opdK p12 (OpdR.step p1 p2 r1) h2
    obtain ⟨y, ys, es, t', rfl, z2, rb, ⟨rfl, h4⟩, k2⟩ := items_opdK p12 r2 h3
    have s0 : ∀ {fq : List Addr}, Sty G2 H2 fq G2 H2 := ⟨Tups.refl _, Le.refl _, p12.sr.gh, fun _ _ _ e => e⟩
    have sa : ∀ {G3 H3 : Hp}, Sty G2 H2 (fa ++ fb) G3 H3 → Sty G2 H2 fa G3 H3 ∧ Sty G2 H2 fb G3 H3 := fun st => ⟨⟨st.1, st.2.1, st.2.2.1, fun p hp => st.2.2.2 p (hp.imp (List.mem_append_left _) id)⟩, ⟨st.1, st.2.1, st.2.2.1, fun p hp => st.2.2.2 p (hp.imp (List.mem_append_right _) id)⟩⟩
    refine ⟨x, y, xs, ys, rfl, ?_⟩
    rcases k1 with ⟨et, k1⟩ | ⟨et, k1⟩ <;> rcases k2 with ⟨et', k2⟩ | ⟨et', k2⟩
    · exact .inr ⟨k1, k2, q _ e2 h4 _ G2 H2 f2 _ p12 (items_zip (fun H a xs => SqT X.K H a xs) (fun _ _ h => h) (fun _ _ _ _ h => h) (fun _ _ h => h) (fun G3 H3 st => sqT_mono st.1 k1) (fun G3 H3 st => sqT_mono st.1 k2) z1 ra rb)⟩
    · rw [et] at et'; cases et'
    · rw [et] at et'; cases et'
    · exact .inl ⟨k1 _ _ s0, k2 _ _ s0, q _ e2 h4 _ G2 H2 f2 _ p12 (items_zip (fun H a xs => SqL X.K H a xs) (fun _ _ h => h) (fun _ _ _ _ h => h) (fun _ _ h => h) (fun G3 H3 st => k1 _ _ (sa st).1) (fun G3 H3 st => k2 _ _ (sa st).2) z1 ra rb)⟩
end
/-! ### in short, for what a printer prints -/
def freeB (ms : List PM) (i : Nat) : Bool := match ms[i]? with
  | some (.io _) => false
  | _ => true
theorem free_of {ms : List PM} {i : Nat} (h : freeB ms i = true) : Free ms i := fun n e => by
  unfold freeB at h
  rw [e] at h
  cases h
theorem u64 {A : Around} {k : Nat} (r : Room k A) : A.units + 64 < cLine := r.units
theorem u1 {A : Around} {k : Nat} (r : Room k A) : A.units + 1 < cLine := hu_of r
theorem boot_abs : bootBuiltins "abs" = some (.builtin "abs") := by decide +kernel
theorem boot_max : bootBuiltins "max" = some (.builtin "max") := by decide +kernel
theorem boot_min : bootBuiltins "min" = some (.builtin "min") := by decide +kernel
section
variable {X : Cx} {j : Nat} {pos : Pos}
theorem c_int {i : Int} : PE X (.Constant (.int i) j pos) (rdE X.K (wC (.int i))) := snd_c pe_int fun _ _ => .int i
theorem c_bl {b : Bool} : PE X (.Constant (.bool b) j pos) (rdE X.K (wC (.bool b))) := snd_c pe_bl fun _ _ => .bl b
end
end Sq
/-! Sq20: y = [..], frozen; the defs of the top -/
namespace Sq
open PySem PySem.Spec PyProof.Rows L2
theorem asgF_rd {K : Frag} {S : AS} {w : WE} {i : Nat} {De : Ends} {σ : L2.St} {H : Hp} (ha : S.a i) (h : rdS K S (wAsg (wFz w) (wNmG i)) De σ H) : rdE K w σ H fun v H1 => De.nx (σ.set i (some v)) H1 := by
  obtain ⟨G, L, env, f, P, s, h, hn, _⟩ := h
  exact ⟨G, L, env, f, _, s, h, fun n d e1 ⟨hi, h1⟩ v G1 H1 f1 fv p1 r1 => hn _ h1 _ _ H1 _ (p1.fz.put (.frz (RepO.fz p1 r1)) hi) (.set σ _ ha)⟩
section
variable {X : Cx} {pos : Pos}
theorem snd_setCompF {S : AS} {i : Nat} {y : Str} {py : Pos} {elt tg iter : Expr} {ifs : List Expr} {scope : Scope} {own : List (Str × Nat)} {spos : Pos} {wi : WI} {g : WG} {t : WT} {el : WE} {k : Nat} (hc : X.calm = true) (hN : X.N.Nodup) (hy : X.N[i]? = some y) (hyl : X.env.scope.names.lookup y = some .local) (ha : S.a i)
    (hsw : swapsWith (.ListComp elt [⟨tg, iter, ifs, 0⟩] scope pos) (some (.Name y py)) spos.line X.env = pure true) (hi : PI X tg iter (rdI X.K wi)) (ok : BlkOk X.N X.env.scope scope own)
    (hg : ∀ (s : Shared) (H : Hp) (C : Addr) (cl : List (Str × Addr)) (fp : List Addr), PG (X.blk s H scope (compEnvC scope cl C X.env) fp) tg (rdG X.K (· ∈ own.map (·.2)) g))
    (ht : ∀ (s : Shared) (H : Hp) (C : Addr) (cl : List (Str × Addr)) (fp : List Addr), PTs (X.blk s H scope (compEnvC scope cl C X.env) fp) ifs (rdT X.K t))
    (he : ∀ (s : Shared) (H : Hp) (C : Addr) (cl : List (Str × Addr)) (fp : List Addr), PE (X.blk s H scope (compEnvC scope cl C X.env) fp) elt (rdE X.K el)) (hs : ∀ x, foldedSetIterable iter X.env x = pure x) :
    PS X (.Assign [.Name y py] (.ListComp elt [⟨tg, iter, ifs, 0⟩] scope pos) spos) (rdS X.K S (wAsg (wFz (wComp wi g t el (own.map (·.2)) k)) (wNmG i))) :=
  ps_imp (ps_setLc hc hN hy hyl hsw hi ok hg ht he hs) fun De σ H h => comp_rd (asgF_rd ha h)
end
end Sq
/-! Sq21: what the combinators ask, as rewritings; loops by invariants -/
namespace Sq
open PySem PySem.Spec PyProof.Rows L2
theorem x_wC (d : D) (env : En) (Q : QE) : (wC d env Q) = (Q 0 d env) := rfl
theorem x_wEx (w : WE) (env : En) (Q : (Opd → En → Prop)) : (wEx w env Q) = (w env fun n d env' => Q (.tmp n d) env') := rfl
theorem x_wNil  (env : En) (Q : (List Opd → En → Prop)) : (wNil  env Q) = (Q [] env) := rfl
theorem x_wCons (a : WO) (b : WA) (env : En) (Q : (List Opd → En → Prop)) : (wCons a b env Q) = (a env fun o env1 => b env1 fun os env2 => Q (o :: os) env2) := rfl
theorem x_wOp (w : OW) (wa : WA) (env : En) (Q : QE) : (wOp w wa env Q) = (wa env fun os env' => fetchs env' os fun xs => w xs fun n d => Q n d env') := rfl
theorem x_wT (w : WE) (env : En) (Q : (Bool → En → Prop)) : (wT w env Q) = (w env fun n d env' => ∃ b, d = .bool b ∧ Q b env') := rfl
theorem x_wAndT (a b : WT) (env : En) (Q : (Bool → En → Prop)) : (wAndT a b env Q) = (a env fun c e1 => if c = true then b e1 Q else Q false e1) := rfl
theorem x_wOrT (a b : WT) (env : En) (Q : (Bool → En → Prop)) : (wOrT a b env Q) = (a env fun c e1 => if c = true then Q true e1 else b e1 Q) := rfl
theorem x_wNotT (a : WT) (env : En) (Q : (Bool → En → Prop)) : (wNotT a env Q) = (a env fun c e1 => Q (!c) e1) := rfl
theorem x_wIte (t : WT) (a b : WE) (env : En) (Q : QE) : (wIte t a b env Q) = (t env fun c e1 => if c = true then a e1 Q else b e1 Q) := rfl
theorem x_wAndV (a b : WE) (env : En) (Q : QE) : (wAndV a b env Q) = (a env fun _ d e1 => ∃ c, d = .bool c ∧ if c = true then b e1 Q else Q 0 (.bool false) e1) := rfl
theorem x_wOrV (a b : WE) (env : En) (Q : QE) : (wOrV a b env Q) = (a env fun _ d e1 => ∃ c, d = .bool c ∧ if c = true then Q 0 (.bool true) e1 else b e1 Q) := rfl
theorem x_wNotV (a : WE) (env : En) (Q : QE) : (wNotV a env Q) = (a env fun _ d e1 => ∃ c, d = .bool c ∧ Q 0 (.bool (!c)) e1) := rfl
theorem x_wChain (w w' : OW) (a b c : WO) (env : En) (Q : QE) : (wChain w w' a b c env Q) = (a env fun oa e1 => b e1 fun ob e2 => fetch e2 oa fun n d => fetch e2 ob fun m e => w [(n, d), (m, e)] fun _ z => ∃ k, z = .bool k ∧
  if k = true then c e2 fun oc e3 => fetch e3 ob fun m' e' => fetch e3 oc fun l g => w' [(m', e'), (l, g)] fun j y => Q j y e3 else Q 0 (.bool false) e2) := rfl
theorem x_wTru (o : WO) (env : En) (Q : (Bool → En → Prop)) : (wTru o env Q) = (o env fun od e1 => fetch e1 od fun _ d => truD d fun b => Q b e1) := rfl
theorem x_wFz (w : WE) (env : En) (Q : QE) : (wFz w env Q) = (w env fun _ d env' => Q 0 d env') := rfl
theorem x_wTup (wa : WA) (env : En) (Q : QE) : (wTup wa env Q) = (wa env fun os e1 => ∃ ds, tmpsK 0 os = some ds ∧ ds.length ≤ sizeLine ∧ Q 0 (.tuple ds) e1) := rfl
theorem x_wLst (k : Nat) (wa : WA) (env : En) (Q : QE) : (wLst k wa env Q) = (wa env fun os e1 => ∃ ds, tmpsK k os = some ds ∧ ds.length ≤ sizeLine ∧ Q (k + 1) (.list ds) e1) := rfl
theorem x_wStar (o : WO) (b : WA) (env : En) (Q : (List Opd → En → Prop)) : (wStar o b env Q) = (o env fun od e1 => fetch e1 od fun n d => starD n d fun ds => b e1 fun os e2 => Q (ds.map (Opd.tmp 0) ++ os) e2) := rfl
theorem x_wP0  (env : En) (Q : (Option Int → En → Prop)) : (wP0  env Q) = (Q none env) := rfl
theorem x_wP1 (w : WE) (env : En) (Q : (Option Int → En → Prop)) : (wP1 w env Q) = (w env fun _ d e1 => ∃ i, d = .int i ∧ Q (some i) e1) := rfl
theorem x_wCut (o : WO) (lo hi : WP) (env : En) (Q : QE) : (wCut o lo hi env Q) = (o env fun od e1 => lo e1 fun l e2 => hi e2 fun h e3 => fetch e3 od fun n d => oCut l h n d fun k z => Q k z e3) := rfl
theorem x_wNext  (env : En) (P : K4) : (wNext  env P) = (P.nx env) := rfl
theorem x_wBrk  (env : En) (P : K4) : (wBrk  env P) = (P.bk env) := rfl
theorem x_wCnt  (env : En) (P : K4) : (wCnt  env P) = (P.ct env) := rfl
theorem x_wNever  (x0 : En) (x1 : K4) : (wNever  x0 x1) = (False) := rfl
theorem x_wSeq (a b : WS) (env : En) (P : K4) : (wSeq a b env P) = (a env { P with nx := fun e => b e P }) := rfl
theorem x_wNm (i : Nat) (n : Nat) (d : D) (e : En) (Q : (En → Prop)) : (wNm i n d e Q) = (Q (e.set i (some (.own n, d)))) := rfl
theorem x_wNmG (i : Nat) (n : Nat) (d : D) (e : En) (Q : (En → Prop)) : (wNmG i n d e Q) = (i < e.length ∧ wNm i n d e Q) := rfl
theorem x_wAsg (w : WE) (g : WG) (env : En) (P : K4) : (wAsg w g env P) = (w env fun n d e1 => g n d e1 P.nx) := rfl
theorem x_wExpr (w : WE) (env : En) (P : K4) : (wExpr w env P) = (w env fun _ _ e1 => P.nx e1) := rfl
theorem x_wRet (w : WE) (env : En) (P : K4) : (wRet w env P) = (w env P.rt) := rfl
theorem x_wRetN  (env : En) (P : K4) : (wRetN  env P) = (P.rt 0 .none env) := rfl
theorem x_wIf (t : WT) (a b : WS) (env : En) (P : K4) : (wIf t a b env P) = (t env fun c e1 => if c = true then a e1 P else b e1 P) := rfl
theorem x_wFor (wi : WI) (g : WG) (b : WS) (env : En) (P : K4) : (wFor wi g b env P) = (wi env fun ds e1 => loopW g b ds e1 P) := rfl
theorem x_wComp (wi : WI) (g : WG) (t : WT) (el : WE) (vs : List Nat) (k : Nat) (env : En) (Q : QE) : (wComp wi g t el vs k env Q) = (wi env fun ds e1 => compW g t el vs k ds [] (wipeE vs e1) fun acc e2 => Q (k + 1) (.list acc) (restE vs e1 e2)) := rfl
theorem x_wYes  (env : En) (Q : (Bool → En → Prop)) : (wYes  env Q) = (Q true env) := rfl
theorem x_wiSeq (o : WO) (env : En) (Q : (List D → En → Prop)) : (wiSeq o env Q) = (o env fun od e1 => itemsD e1 od fun ds => Q ds e1) := rfl
theorem x_wiEnum (o : WO) (env : En) (Q : (List D → En → Prop)) : (wiEnum o env Q) = (o env fun od e1 => itemsD e1 od fun ds => Q (enumL ds) e1) := rfl
theorem x_wiRange1 (a : WE) (env : En) (Q : (List D → En → Prop)) : (wiRange1 a env Q) = (a env fun _ d e1 => ∃ j, d = .int j ∧ inB j ∧ j ≤ 16777216 ∧ Q (rangeL 0 j.toNat) e1) := rfl
theorem x_wiRange2 (a b : WE) (env : En) (Q : (List D → En → Prop)) : (wiRange2 a b env Q) = (a env fun _ d e1 => ∃ i, d = .int i ∧ b e1 fun _ d' e2 => ∃ j, d' = .int j ∧ (inB i ∧ inB j) ∧ j - i ≤ 16777216 ∧ Q (rangeL i (j - i).toNat) e2) := rfl
theorem x_wDisp (ks : List Key) (m : Nat) (ws : List WE) (env : En) (Q : QE) : (wDisp ks m ws env Q) = (waOf ws env fun os e1 => ∃ ds, tmpsK m os = some ds ∧ ds.length = ks.length ∧ Q (m + 1) (.dict ((ks.map keyD).zip ds)) e1) := rfl
theorem x_wDNew (n : Nat) (env : En) (Q : QE) : (wDNew n env Q) = (Q (n + 1) (.dict []) env) := rfl
theorem x_wDNewT (n : Nat) (env : En) (Q : QE) : (wDNewT n env Q) = (Q (n + 1) (.dict [dTmark]) env) := rfl
theorem x_wCall (F : FS) (wa : WA) (env : En) (Q : QE) : (wCall F wa env Q) = (wa env fun os e1 => ∃ xs, argsAt e1 F.ms os = some xs ∧ okAX xs = true ∧ F.sp (xs.map (·.1)) fun k z outs => Q k z (putO e1 (xs.map (·.2.1)) (outE F.ms outs))) := rfl
theorem x_wiZip (a b : WO) (env : En) (Q : (List D → En → Prop)) : (wiZip a b env Q) = (a env fun oa e1 => b e1 fun ob e2 => itemsK e2 oa fun t xs => itemsK e2 ob fun t' ys => t = t' ∧ Q (zipL xs ys) e2) := rfl
theorem x_tmp (env : En) (n : Nat) (d : D) (Q : Nat → D → Prop) : fetch env (.tmp n d) Q = Q n d := rfl
theorem x_sl (env : En) (i : Nat) (Q : Nat → D → Prop) : fetch env (.sl i) Q = (match env[i]? with
    | some (some (.own n, d)) => Q n d
    | some (some (.lok n, d)) => Q n d
    | _ => False) := by
  apply propext
  show ((∃ n d, env[i]? = some (some (.own n, d)) ∧ Q n d) ∨ ∃ n d, env[i]? = some (some (.lok n, d)) ∧ Q n d) ↔ _
  cases h : env[i]? with
  | none => simp
  | some o =>
    cases o with
    | none => simp
    | some p =>
      obtain ⟨m, d⟩ := p
      cases m with
      | own n =>
        show _ ↔ Q n d
        constructor
        · rintro (⟨n', d', e, q⟩ | ⟨n', d', e, q⟩) <;> cases e
          exact q
        · exact fun q => .inl ⟨n, d, rfl, q⟩
      | lok n =>
        show _ ↔ Q n d
        constructor
        · rintro (⟨n', d', e, q⟩ | ⟨n', d', e, q⟩) <;> cases e
          exact q
        · exact fun q => .inr ⟨n, d, rfl, q⟩
theorem x_fs0 (env : En) (Q : List (Nat × D) → Prop) : fetchs env [] Q = Q [] := rfl
theorem x_fs1 (env : En) (o : Opd) (os : List Opd) (Q : List (Nat × D) → Prop) : fetchs env (o :: os) Q = fetch env o fun n d => fetchs env os fun xs => Q ((n, d) :: xs) := rfl
/-! ### comprehensions -/
/-- one turn: what comes of d, then K -/
def turnW (g : WG) (t : WT) (el : WE) (vs : List Nat) (k : Nat) (d : D) (e : En) (K : Option D → En → Prop) : Prop :=
  g 0 d e fun e1 => t e1 fun b e2 => if b = true then el e2 fun n y e3 => (n = k ∨ (n = 0 ∧ isLeaf y = true)) ∧ K (some y) (wipeE vs e3) else K none (wipeE vs e2)
theorem comp_on {α : Type} {p : α → D} {f : α → Option D} {g : WG} {t : WT} {el : WE} {vs : List Nat} {k : Nat} {Q : List D → En → Prop} {I : En → Prop} :
    ∀ {xs : List α} {acc : List D} {e : En}, I e → (∀ x ∈ xs, ∀ e, I e → ∀ K : Option D → En → Prop, (∀ e', I e' → K (f x) e') → turnW g t el vs k (p x) e K) → (∀ e, I e → Q (acc ++ xs.filterMap f) e) → compW g t el vs k (xs.map p) acc e Q
  | [], acc, e, i, _, q => by
    have := q e i
    rw [List.filterMap_nil, List.append_nil] at this
    exact this
  | d :: ds, acc, e, i, h, q => by
    have z := h d List.mem_cons_self e i (fun r e' => compW g t el vs k (ds.map p) (acc ++ r.toList) e' Q) fun e' i' => comp_on i' (fun d' hd => h d' (List.mem_cons_of_mem _ hd)) fun e i => by
      have := q e i
      rw [List.filterMap_cons] at this
      cases hf : f d with
      | none => rw [hf] at this; simpa using this
      | some y => rw [hf] at this; simpa using this
    simpa [compW, turnW] using z
theorem comp_map {α : Type} {p : α → D} (f : α → D) {g : WG} {t : WT} {el : WE} {vs : List Nat} {k : Nat} {Q : List D → En → Prop} (I : En → Prop) {xs : List α} {e : En} (i : I e)
    (h : ∀ x ∈ xs, ∀ e, I e → ∀ K : Option D → En → Prop, (∀ e', I e' → K (some (f x)) e') → turnW g t el vs k (p x) e K) (q : ∀ e, I e → Q (xs.map f) e) : compW g t el vs k (xs.map p) [] e Q :=
  comp_on (f := fun x => some (f x)) i h fun e i => by
    have := q e i
    rw [← List.filterMap_eq_map] at this
    simpa using this
/-- comprehensions that keep what is around, with what each turn may change told by an invariant over the items done -/
theorem comp_inv {g : WG} {t : WT} {el : WE} {vs : List Nat} {k : Nat} {Q : List D → En → Prop} (I : List D → List D → En → Prop) {all : List D} :
    ∀ {ds done acc : List D} {e : En}, all = done ++ ds → I done acc e → (∀ done d rest acc e, all = done ++ d :: rest → I done acc e → ∀ K : Option D → En → Prop, (∀ r e', I (done ++ [d]) (acc ++ r.toList) e' → K r e') → turnW g t el vs k d e K) →
      (∀ acc e, I all acc e → Q acc e) → compW g t el vs k ds acc e Q
  | [], done, acc, e, a, i, _, q => q acc e (by rw [a, List.append_nil]; exact i)
  | d :: ds, done, acc, e, a, i, h, q => by
    have z := h done d ds acc e a i (fun r e' => compW g t el vs k ds (acc ++ r.toList) e' Q) fun r e' i' => comp_inv I (done := done ++ [d]) (by simpa using a) i' h q
    simpa [compW, turnW] using z
/-! ### for -/
theorem loop_inv {g : WG} {b : WS} {P : K4} (I : List D → En → Prop) {all : List D} : ∀ {ds done : List D} {e : En}, all = done ++ ds → I done e →
    (∀ done d rest e, all = done ++ d :: rest → I done e → ∀ N : En → Prop, (∀ e', I (done ++ [d]) e' → N e') → g 0 d e fun e1 => b e1 { P with nx := N, ct := N, bk := P.nx }) → (∀ e, I all e → P.nx e) → loopW g b ds e P
  | [], done, e, a, i, _, q => q e (by rw [a, List.append_nil]; exact i)
  | d :: ds, done, e, a, i, h, q => h done d ds e a i (fun e2 => loopW g b ds e2 P) fun e' i' => loop_inv I (done := done ++ [d]) (by simpa using a) i' h q
theorem for_inv {g : WG} {b : WS} {P : K4} {ds : List D} {e : En} (I : List D → En → Prop) (h0 : I [] e)
    (h : ∀ done d rest e, ds = done ++ d :: rest → I done e → ∀ N : En → Prop, (∀ e', I (done ++ [d]) e' → N e') → g 0 d e fun e1 => b e1 { P with nx := N, ct := N, bk := P.nx }) (q : ∀ e, I ds e → P.nx e) : loopW g b ds e P :=
  loop_inv I (done := []) rfl h0 h q
/-! ### while -/
theorem while_fuel {t : WT} {b : WS} {P : K4} (I : Nat → En → Prop) (h : ∀ n e, I n e → ∀ N : En → Prop, (∀ m e', m < n → I m e' → N e') → t e fun c e1 => if c = true then b e1 { P with nx := N, ct := N, bk := P.nx } else P.nx e1) :
    ∀ (k n : Nat) (e : En), n < k → I n e → whileW t b k e P
  | 0, n, e, l, _ => by omega
  | k + 1, n, e, l, i => h n e i (fun e2 => whileW t b k e2 P) fun m e' lt i' => while_fuel I h k m e' (by omega) i'
theorem while_inv {t : WT} {b : WS} {P : K4} {e : En} {n : Nat} (I : Nat → En → Prop) (h0 : I n e) (h : ∀ n e, I n e → ∀ N : En → Prop, (∀ m e', m < n → I m e' → N e') → t e fun c e1 => if c = true then b e1 { P with nx := N, ct := N, bk := P.nx } else P.nx e1) : wWhile t b e P :=
  ⟨n + 1, while_fuel I h (n + 1) n e (Nat.lt_succ_self n) h0⟩
/-! ### texts of data -/
end Sq
/-! Sq22: operations and slots, as rewritings -/
namespace Sq
open PySem PySem.Spec PyProof.Rows L2
section
variable {env : En} {n m : Nat} {i j : Int} {Q : Nat → D → Prop} {xs ys : List D} {d e : D} {x y : Str}
theorem at_int {α : Type} {zs : List α} {r : Int} {z : α} (h0 : 0 ≤ r) (h : zs[r.toNat]? = some z) : atI zs r = some z := by
  have q := atI_nat h
  rwa [Int.toNat_of_nonneg h0] at q
theorem y_add : oAdd [(n, .int i), (m, .int j)] Q = Q 0 (.int (i + j)) := rfl
theorem y_addS : oAdd [(n, .str x), (m, .str y)] Q = (x.length + y.length ≤ sizeLine ∧ Q 0 (.str (x ++ y))) := rfl
theorem y_addL : oAdd [(1, .list xs), (1, .list ys)] Q = (xs.length + ys.length ≤ sizeLine ∧ Q 1 (.list (xs ++ ys))) := rfl
theorem y_addT : oAdd [(n, .tuple xs), (m, .tuple ys)] Q = (xs.length + ys.length ≤ sizeLine ∧ Q 0 (.tuple (xs ++ ys))) := rfl
theorem y_sub : oSub [(n, .int i), (m, .int j)] Q = Q 0 (.int (i - j)) := rfl
theorem y_mul : oMul [(n, .int i), (m, .int j)] Q = (CMulB i j ∧ Q 0 (.int (i * j))) := rfl
theorem y_rep : oMul [(1, .list xs), (m, .int j)] Q = (j < 2 ^ 62 ∧ -(2 ^ 62) ≤ j ∧ xs.length * j.toNat ≤ sizeLine ∧ Q 1 (.list (List.replicate j.toNat xs).flatten)) := rfl
theorem y_div : oDiv [(n, .int i), (m, .int j)] Q = (0 < j ∧ j.natAbs.log2 < 9000 ∧ Q 0 (.int (i / j))) := rfl
theorem y_mod : oMod [(n, .int i), (m, .int j)] Q = (0 < j ∧ Q 0 (.int (i % j))) := rfl
theorem y_pow : oPow [(n, .int i), (m, .int j)] Q = ((0 ≤ j ∧ j ≤ 1000000 ∧ i.natAbs < 2 ^ 64) ∧ Q 0 (.int (i ^ j.toNat))) := rfl
theorem y_eq : oEq [(n, .int i), (m, .int j)] Q = Q 0 (.bool (decide (i = j))) := rfl
theorem y_eqS : oEq [(n, .str x), (m, .str y)] Q = Q 0 (.bool (decide (x = y))) := rfl
theorem y_eqL : oEq [(n, .list xs), (m, .list ys)] Q = ((SeqAt.shaped (.list xs) = true ∧ SeqAt.shaped (.list ys) = true) ∧ Q 0 (.bool (PyData.eqv (.list xs) (.list ys)))) := rfl
theorem y_eqT : oEq [(n, .tuple xs), (m, .tuple ys)] Q = ((SeqAt.shaped (.tuple xs) = true ∧ SeqAt.shaped (.tuple ys) = true) ∧ Q 0 (.bool (PyData.eqv (.tuple xs) (.tuple ys)))) := rfl
theorem y_ne : oNe [(n, .int i), (m, .int j)] Q = Q 0 (.bool (!decide (i = j))) := rfl
theorem y_neS : oNe [(n, .str x), (m, .str y)] Q = Q 0 (.bool (!decide (x = y))) := rfl
theorem y_neL : oNe [(n, .list xs), (m, .list ys)] Q = ((SeqAt.shaped (.list xs) = true ∧ SeqAt.shaped (.list ys) = true) ∧ Q 0 (.bool (!PyData.eqv (.list xs) (.list ys)))) := rfl
theorem y_neT : oNe [(n, .tuple xs), (m, .tuple ys)] Q = ((SeqAt.shaped (.tuple xs) = true ∧ SeqAt.shaped (.tuple ys) = true) ∧ Q 0 (.bool (!PyData.eqv (.tuple xs) (.tuple ys)))) := rfl
theorem y_lt : oLt [(n, .int i), (m, .int j)] Q = Q 0 (.bool (decide (i < j))) := rfl
theorem y_le : oLe [(n, .int i), (m, .int j)] Q = Q 0 (.bool (decide (i ≤ j))) := rfl
theorem y_gt : oGt [(n, .int i), (m, .int j)] Q = Q 0 (.bool (decide (j < i))) := rfl
theorem y_ge : oGe [(n, .int i), (m, .int j)] Q = Q 0 (.bool (decide (j ≤ i))) := rfl
theorem y_isN : oIsN [(n, d), (m, .none)] Q = Q 0 (.bool (isNone d)) := rfl
theorem y_notN : oNotN [(n, d), (m, .none)] Q = Q 0 (.bool (!isNone d)) := rfl
theorem y_nNone : isNone .none = true := rfl
theorem y_nInt : isNone (.int i) = false := rfl
theorem y_nStr : isNone (.str x) = false := rfl
theorem y_nTup : isNone (.tuple xs) = false := rfl
theorem y_nLst : isNone (.list xs) = false := rfl
theorem y_lenL : oLen [(n, .list xs)] Q = Q 0 (.int xs.length) := rfl
theorem y_lenT : oLen [(n, .tuple xs)] Q = Q 0 (.int xs.length) := rfl
theorem y_lenS : oLen [(n, .str x)] Q = (x.length ≤ sizeLine ∧ Q 0 (.int x.length)) := rfl
theorem y_abs : oAbs [(n, .int i)] Q = Q 0 (.int i.natAbs) := rfl
theorem y_max : oMax2 [(n, .int i), (m, .int j)] Q = Q 0 (.int (max i j)) := rfl
theorem y_min : oMin2 [(n, .int i), (m, .int j)] Q = Q 0 (.int (min i j)) := rfl
theorem y_int : oInt [(n, .int i)] Q = Q 0 (.int i) := rfl
theorem y_intB {b : Bool} : oInt [(n, .bool b)] Q = Q 0 (.int (if b then 1 else 0)) := rfl
theorem y_tupL : oTuple [(n, .list xs)] Q = (n ≤ 1 ∧ Q 0 (.tuple xs)) := rfl
theorem y_tupT : oTuple [(n, .tuple xs)] Q = Q 0 (.tuple xs) := rfl
theorem y_lstL : oList [(n, .list xs)] Q = (n ≤ 1 ∧ Q 1 (.list xs)) := rfl
theorem y_lstT : oList [(n, .tuple xs)] Q = Q 1 (.list xs) := rfl
theorem y_repr : oRepr [(n, d)] Q = (reprOk d ∧ Q 0 (.str d.shown)) := rfl
theorem y_neg : oNeg [(n, .int i)] Q = Q 0 (.int (-i)) := rfl
theorem y_ixL : oIx [(n, .list xs), (m, .int i)] Q = (n ≤ 1 ∧ ∃ d, atI xs i = some d ∧ Q 0 d) := rfl
theorem y_ixT : oIx [(n, .tuple xs), (m, .int i)] Q = (∃ d, atI xs i = some d ∧ Q 0 d) := rfl
theorem y_cutL {lo hi : Option Int} : oCut lo hi n (.list xs) Q = (n ≤ 1 ∧ Q 1 (.list (cut xs lo hi))) := rfl
theorem y_cutT {lo hi : Option Int} : oCut lo hi n (.tuple xs) Q = Q 0 (.tuple (cut xs lo hi)) := rfl
theorem y_rev : oRev [(n, .list xs)] Q = (n ≤ 1 ∧ Q 1 (.list xs.reverse)) := rfl
theorem y_starT {R : List D → Prop} : starD n (.tuple xs) R = R xs := rfl
theorem y_starL {R : List D → Prop} : starD n (.list xs) R = (n ≤ 1 ∧ R xs) := rfl
theorem y_starKT {R : Bool → List D → Prop} : starK n (.tuple xs) R = R true xs := rfl
theorem y_starKL {R : Bool → List D → Prop} : starK n (.list xs) R = (n ≤ 1 ∧ R false xs) := rfl
theorem y_itT {R : List D → Prop} : itemsD env (.tmp n d) R = starD n d R := rfl
theorem y_itKT {R : Bool → List D → Prop} : itemsK env (.tmp n d) R = starK n d R := rfl
/-- the plain thing in a slot -/
def plainAt (s : Option Slot) (R : D → Prop) : Prop := match s with
  | some (some (.own 0, d)) => R d
  | _ => False
theorem plain_iff {s : Option Slot} {R : D → Prop} : (∃ d, s = some (some (.own 0, d)) ∧ R d) = plainAt s R := by
  apply propext
  unfold plainAt
  split
  · exact ⟨fun ⟨d, e, r⟩ => by cases e; exact r, fun r => ⟨_, rfl, r⟩⟩
  · rename_i h
    exact ⟨fun ⟨d, e, r⟩ => (h d e).elim, fun r => r.elim⟩
theorem y_plain {R : D → Prop} : plainAt (some (some (.own 0, d))) R = R d := rfl
theorem y_itS {k : Nat} {R : List D → Prop} : itemsD env (.sl k) R = plainAt env[k]? fun d => starD 0 d R := plain_iff
theorem y_itKS {k : Nat} {R : Bool → List D → Prop} : itemsK env (.sl k) R = plainAt env[k]? fun d => starK 0 d R := plain_iff
theorem y_var {k : Nat} {R : QE} : wVar k env R = plainAt env[k]? fun d => R 0 d env := plain_iff
/-- what a slot owns -/
def ownAt (s : Option Slot) (R : Nat → D → Prop) : Prop := match s with
  | some (some (.own n, d)) => R n d
  | _ => False
theorem own_iff {s : Option Slot} {R : Nat → D → Prop} : (∃ n d, s = some (some (.own n, d)) ∧ R n d) = ownAt s R := by
  apply propext
  unfold ownAt
  split
  · exact ⟨fun ⟨n, d, e, r⟩ => by cases e; exact r, fun r => ⟨_, _, rfl, r⟩⟩
  · rename_i h
    exact ⟨fun ⟨n, d, e, r⟩ => (h n d e).elim, fun r => r.elim⟩
theorem y_own {R : Nat → D → Prop} : ownAt (some (some (.own n, d))) R = R n d := rfl
theorem y_mv {k : Nat} {R : QE} : wMv k env R = ownAt env[k]? fun n d => R n d (env.set k none) := own_iff
/-- what is seen in a slot -/
def seenAt (s : Option Slot) (R : Nat → D → Prop) : Prop := match s with
  | some (some (.own n, d)) => R n d
  | some (some (.lok n, d)) => R n d
  | _ => False
theorem y_seen {R : Nat → D → Prop} : seenAt (some (some (.own n, d))) R = R n d := rfl
theorem y_seenL {R : Nat → D → Prop} : seenAt (some (some (.lok n, d))) R = R n d := rfl
theorem y_fetS {k : Nat} {R : Nat → D → Prop} : fetch env (.sl k) R = seenAt env[k]? R := x_sl env k R
theorem y_sl {k : Nat} {R : Opd → En → Prop} : wSl k env R = (seenAt env[k]? (fun _ _ => True) ∧ R (.sl k) env) := by
  have e : (∃ s, env[k]? = some (some s)) = seenAt env[k]? fun _ _ => True := by
    apply propext
    unfold seenAt
    constructor
    · rintro ⟨⟨m, d⟩, h⟩
      rw [h]
      cases m <;> trivial
    · intro h
      split at h
      · rename_i q; exact ⟨_, q⟩
      · rename_i q; exact ⟨_, q⟩
      · exact h.elim
  show ((∃ s, env[k]? = some (some s)) ∧ _) = _
  rw [e]
theorem y_tm0 {k : Nat} : tmpsK k [] = some [] := rfl
theorem y_tmS {k : Nat} {os : List Opd} : tmpsK k (.tmp k d :: os) = (tmpsK k os).map (d :: ·) := by simp [tmpsK]
theorem y_tmI {k : Nat} {os : List Opd} : tmpsK k (.tmp 0 (.int i) :: os) = (tmpsK k os).map (.int i :: ·) := by simp [tmpsK, isLeaf]
theorem y_tmT {k : Nat} {os : List Opd} : tmpsK k (.tmp 0 (.tuple xs) :: os) = (tmpsK k os).map (.tuple xs :: ·) := by simp [tmpsK, isLeaf]
theorem y_tmX {k : Nat} {os : List Opd} : tmpsK k (.tmp 0 (.str x) :: os) = (tmpsK k os).map (.str x :: ·) := by simp [tmpsK, isLeaf]
theorem y_tmN {k : Nat} {os : List Opd} : tmpsK k (.tmp 0 .none :: os) = (tmpsK k os).map (.none :: ·) := by simp [tmpsK, isLeaf]
theorem y_tn0 : tmpsN [] = some [] := rfl
theorem y_tnC {os : List Opd} : tmpsN (.tmp n d :: os) = (tmpsN os).map ((n, d) :: ·) := rfl
theorem y_mapS {α β : Type} {f : α → β} {a : α} : (some a).map f = some (f a) := rfl
theorem y_io0 {os : List D} : ioAt [] env os = (os = []) := by cases env <;> rfl
theorem y_ioV {ms : List PM} {s : Slot} {os : List D} : ioAt (.val :: ms) (s :: env) os = ioAt ms env os := rfl
theorem y_ioB {ms : List PM} {s : Slot} {os : List D} {k : Nat} : ioAt (.br k :: ms) (s :: env) os = ioAt ms env os := rfl
theorem io_ex {ms : List PM} {s : Slot} {k : Nat} {R : List D → Prop} : (∃ os, ioAt (.io k :: ms) (s :: env) os ∧ R os) = ∃ o os, s = some (.own k, o) ∧ ioAt ms env os ∧ R (o :: os) := by
  apply propext
  constructor
  · rintro ⟨os, h, r⟩
    cases os with
    | nil => exact h.elim
    | cons o os => exact ⟨o, os, h.1, h.2, r⟩
  · rintro ⟨o, os, h, h', r⟩
    exact ⟨o :: os, ⟨h, h'⟩, r⟩
theorem y_nx {ms : List PM} {R : Nat → D → List D → Prop} {e : En} : (endK ms R).nx e = ∃ os, ioAt ms e os ∧ R 0 .none os := rfl
theorem y_rt {ms : List PM} {R : Nat → D → List D → Prop} {k : Nat} {z : D} {e : En} : (endK ms R).rt k z e = ∃ os, ioAt ms e os ∧ R k z os := rfl
theorem y_fit0 : fit 0 n (.int i) = True := by simp [fit, isLeaf]
theorem y_fitT : fit 0 n (.tuple xs) = True := by simp [fit, isLeaf]
theorem y_fitN : fit 0 n .none = True := by simp [fit, isLeaf]
theorem y_fitX : fit 0 n (.str x) = True := by simp [fit, isLeaf]
theorem y_fitS : fit n n d = True := by simp [fit]
theorem y_app {k : Nat} {w : WE} {R : QE} : wApp k w env R = (ownAt env[k]? (fun _ d => ∃ xs, d = .list xs) ∧ w env fun a z e1 => ownAt e1[k]? fun n d => 0 < n ∧ ∃ xs, d = .list xs ∧ fit a (n - 1) z ∧ xs.length < sizeLine ∧ R 0 .none (e1.set k (some (.own n, .list (xs ++ [z]))))) := by
  have e1 : (∃ n xs, env[k]? = some (some (.own n, .list xs))) = ownAt env[k]? (fun _ d => ∃ xs, d = .list xs) := by
    rw [← own_iff]
    apply propext
    exact ⟨fun ⟨n, xs, h⟩ => ⟨n, _, h, xs, rfl⟩, fun ⟨n, d, h, xs, e⟩ => ⟨n, xs, by rw [h, e]⟩⟩
  have e2 : ∀ (a : Nat) (z : D) (e1 : En), (∃ m xs, e1[k]? = some (some (.own (m + 1), .list xs)) ∧ fit a m z ∧ xs.length < sizeLine ∧ R 0 .none (e1.set k (some (.own (m + 1), .list (xs ++ [z]))))) = ownAt e1[k]? fun n d => 0 < n ∧ ∃ xs, d = .list xs ∧ fit a (n - 1) z ∧ xs.length < sizeLine ∧ R 0 .none (e1.set k (some (.own n, .list (xs ++ [z])))) := fun a z e1 => by
    rw [← own_iff]
    apply propext
    constructor
    · rintro ⟨m, xs, h, h1, h2, h3⟩
      exact ⟨m + 1, _, h, Nat.succ_pos m, xs, rfl, h1, h2, h3⟩
    · rintro ⟨n, d, h, h0, xs, rfl, h1, h2, h3⟩
      obtain ⟨m, rfl⟩ : ∃ m, n = m + 1 := ⟨n - 1, by omega⟩
      exact ⟨m, xs, h, h1, h2, h3⟩
  show (_ ∧ w env fun a z e1 => _) = _
  rw [e1]
  congr 1
  congr 1
  funext a z e1
  exact e2 a z e1
theorem y_appB {k : Nat} {key : Key} {w : WE} {R : QE} : wAppB (.k (.s k) (.c key)) w env R = ownAt env[k]? fun n d => ∃ m xs, child n d key = some (m + 1, .list xs) ∧ w (env.set k none) fun a z e1 => fit a m z ∧ xs.length < sizeLine ∧ k < e1.length ∧ R 0 .none (e1.set k (some (.own n, cset d key (.list (xs ++ [z]))))) := by
  rw [← own_iff]
  apply propext
  have fe : ∀ {n : Nat} {d : D} {m : Nat} {xs : List D} (z : D), child n d key = some (m + 1, .list xs) → dset d [.key key] (.list (xs ++ [z])) = cset d key (.list (xs ++ [z])) := fun z h => by
    obtain ⟨m', e3⟩ := child_n h 1
    simp [dset, pset, pchild, e3]
  constructor
  · rintro ⟨n, d, ks, m, xs, h1, h2, h3, h4⟩
    cases h2
    obtain ⟨⟨x1, x2⟩, e1, e2⟩ := Option.bind_eq_some_iff.mp h3
    have e3 : (x1, x2) = (m + 1, PyData.list xs) := Option.some.inj e2
    cases e3
    refine ⟨_, _, h1, m, xs, e1, ?_⟩
    have h4' : w (env.set k none) fun a z e1 => fit a m z ∧ xs.length < sizeLine ∧ k < e1.length ∧ R 0 .none (e1.set k (some (.own n, dset d [.key key] (.list (xs ++ [z]))))) := h4
    simpa only [fe _ e1] using h4'
  · rintro ⟨n, d, h1, m, xs, e1, h4⟩
    refine ⟨n, d, [.key key], m, xs, h1, rfl, Option.bind_eq_some_iff.mpr ⟨_, e1, rfl⟩, ?_⟩
    show w (env.set k none) fun a z e1 => fit a m z ∧ xs.length < sizeLine ∧ k < e1.length ∧ R 0 .none (e1.set k (some (.own n, dset d [.key key] (.list (xs ++ [z])))))
    simpa only [fe _ e1] using h4
theorem at_1 {α : Type} {a b : α} {r : List α} : atI (a :: b :: r) 1 = some b := by
  refine at_int (by decide) ?_
  rfl
theorem at_0 {α : Type} {a : α} {r : List α} : atI (a :: r) 0 = some a := at_int (by decide) rfl
theorem at_2 {α : Type} {a b c : α} {r : List α} : atI (a :: b :: c :: r) 2 = some c := at_int (by decide) rfl
theorem at_3 {α : Type} {a b c e : α} {r : List α} : atI (a :: b :: c :: e :: r) 3 = some e := at_int (by decide) rfl
theorem y_chL {z : Int} : child n (.list xs) (.inl z) = (atI xs z).map fun c => (n - 1, c) := rfl
theorem y_chT {z : Int} : child n (.tuple xs) (.inl z) = (atI xs z).map fun c => (0, c) := rfl
def allLt : List Nat → Nat → Prop
  | [], _ => True
  | i :: is, n => i < n ∧ allLt is n
theorem allLt_iff : ∀ {is : List Nat} {n : Nat}, (∀ i ∈ is, i < n) = allLt is n
  | [], n => by simp [allLt]
  | i :: is, n => by simp only [List.forall_mem_cons, allLt, allLt_iff (is := is)]
theorem y_par {is : List Nat} {wa : WA} {P : K4} : wPar is wa env P = wa env fun os e1 => ∃ xs, tmpsN os = some xs ∧ xs.length = is.length ∧ allLt is e1.length ∧ P.nx (setE e1 is xs) := by
  show (wa env fun os e1 => ∃ xs, tmpsN os = some xs ∧ xs.length = is.length ∧ (∀ i ∈ is, i < e1.length) ∧ P.nx (setE e1 is xs)) = _
  simp only [allLt_iff]
theorem y_al0 : allLt [] n = True := rfl
theorem y_alC {k : Nat} {is : List Nat} : allLt (k :: is) n = (k < n ∧ allLt is n) := rfl
theorem y_gn {R : En → Prop} : wGn [] env R = R env := by
  apply propext
  exact ⟨fun h => h.2, fun h => ⟨rfl, h⟩⟩
theorem y_gc {g : WG} {gs : WGs} {R : En → Prop} : wGc g gs (d :: xs) env R = g 0 d env fun e1 => gs xs e1 R := by
  apply propext
  constructor
  · rintro ⟨_, _, e, h⟩
    cases e
    exact h
  · exact fun h => ⟨_, _, rfl, h⟩
theorem y_tp {k a : Nat} {gs : WGs} {R : En → Prop} : wTp k gs a (.tuple xs) env R = (xs.length = k ∧ gs xs env R) := by
  apply propext
  constructor
  · rintro ⟨_, e, h⟩
    cases e
    exact h
  · exact fun h => ⟨_, rfl, h⟩
def argV : Option Slot → Option AX
  | some (some (.own n, d)) => if n = 0 ∨ isLeaf d = true then some (d, none, none) else none
  | some (some (.lok n, d)) => if n = 0 ∨ isLeaf d = true then some (d, none, none) else none
  | _ => none
def argI (n k : Nat) : Option Slot → Option AX
  | some (some (.own m, d)) => if m = n then some (d, some k, none) else none
  | _ => none
def argB (n k : Nat) : Option Slot → Option AX
  | some (some (.own m, d)) => if m = n then some (d, none, some k) else none
  | some (some (.lok m, d)) => if m = n then some (d, none, none) else none
  | _ => none
theorem a_nil : argsAt env [] [] = some [] := rfl
theorem a_cons {a : PM} {ms : List PM} {o : Opd} {os : List Opd} : argsAt env (a :: ms) (o :: os) = (argAt env a o).bind fun x => (argsAt env ms os).map (x :: ·) := rfl
theorem a_vt : argAt env .val (.tmp 0 d) = some (d, none, none) := by simp [argAt]
theorem a_vs {k : Nat} : argAt env .val (.sl k) = argV env[k]? := by
  cases h : env[k]? with
  | none => simp [argAt, argV, h]
  | some s =>
    cases s with
    | none => simp [argAt, argV, h]
    | some p =>
      obtain ⟨m, d⟩ := p
      cases m <;> simp [argAt, argV, h]
theorem a_is {a k : Nat} : argAt env (.io a) (.sl k) = argI a k env[k]? := by
  cases h : env[k]? with
  | none => simp [argAt, argI, h]
  | some s =>
    cases s with
    | none => simp [argAt, argI, h]
    | some p =>
      obtain ⟨m, d⟩ := p
      cases m <;> simp [argAt, argI, h]
theorem a_bs {a k : Nat} : argAt env (.br a) (.sl k) = argB a k env[k]? := by
  cases h : env[k]? with
  | none => simp [argAt, argB, h]
  | some s =>
    cases s with
    | none => simp [argAt, argB, h]
    | some p =>
      obtain ⟨m, d⟩ := p
      cases m <;> simp [argAt, argB, h]
theorem a_bt : argAt env (.br n) (.tmp n d) = some (d, none, none) := by simp [argAt]
theorem a_v0 : argV (some (some (.own 0, d))) = some (d, none, none) := by simp [argV]
theorem a_vl : argV (some (some (.lok 0, d))) = some (d, none, none) := by simp [argV]
theorem a_vi : argV (some (some (.own n, .int i))) = some (.int i, none, none) := by simp [argV, isLeaf]
theorem a_i0 {k : Nat} : argI n k (some (some (.own n, d))) = some (d, some k, none) := by simp [argI]
theorem a_b0 {k : Nat} : argB n k (some (some (.own n, d))) = some (d, none, some k) := by simp [argB]
theorem a_bl {k : Nat} : argB n k (some (some (.lok n, d))) = some (d, none, none) := by simp [argB]
theorem y_bind {α β : Type} {a : α} {f : α → Option β} : (some a).bind f = f a := rfl
section
variable {d1 d2 d3 d4 d5 d6 : D} {k : Nat}
theorem ok_0 : okAX [] = true := rfl
theorem ok_1 : okAX [(d1, none, none)] = true := rfl
theorem ok_2 : okAX [(d1, none, none), (d2, none, none)] = true := rfl
theorem ok_3 : okAX [(d1, none, none), (d2, none, none), (d3, none, none)] = true := rfl
theorem ok_4 : okAX [(d1, none, none), (d2, none, none), (d3, none, none), (d4, none, none)] = true := rfl
theorem ok_5 : okAX [(d1, none, none), (d2, none, none), (d3, none, none), (d4, none, none), (d5, none, none)] = true := rfl
theorem ok_6 : okAX [(d1, none, none), (d2, none, none), (d3, none, none), (d4, none, none), (d5, none, none), (d6, none, none)] = true := rfl
theorem ok_i1 : okAX [(d1, some k, none)] = true := rfl
theorem ok_i2 : okAX [(d1, some k, none), (d2, none, none)] = true := rfl
theorem ok_i3 : okAX [(d1, some k, none), (d2, none, none), (d3, none, none)] = true := rfl
theorem ok_i4 : okAX [(d1, some k, none), (d2, none, none), (d3, none, none), (d4, none, none)] = true := rfl
theorem ok_i5 : okAX [(d1, some k, none), (d2, none, none), (d3, none, none), (d4, none, none), (d5, none, none)] = true := rfl
theorem ok_i6 : okAX [(d1, some k, none), (d2, none, none), (d3, none, none), (d4, none, none), (d5, none, none), (d6, none, none)] = true := rfl
end
theorem cut_tail {α : Type} (zs : List α) : cut zs (some 1) none = zs.tail := by
  have e : HT.sIx zs.length 0 (some 1) = min 1 zs.length := HT.sIx_nat zs.length 0 1
  unfold cut
  rw [e, HT.sIx_none]
  cases zs with
  | nil => rfl
  | cons z r =>
    have : min 1 (z :: r).length = 1 := by rw [List.length_cons]; omega
    rw [this]
    show r.take _ = r
    rw [List.length_cons, Nat.add_sub_cancel]
    exact List.take_length
theorem y_po0 {ss : En} : putO env [] ss = env := by cases ss <;> rfl
theorem y_poS {k : Nat} {js : List (Option Nat)} {s : Slot} {ss : En} : putO env (some k :: js) (s :: ss) = putO (env.set k s) js ss := rfl
theorem y_poN {js : List (Option Nat)} {s : Slot} {ss : En} : putO env (none :: js) (s :: ss) = putO env js ss := rfl
theorem y_ou0 {os : List D} : outE [] os = [] := by cases os <;> rfl
theorem y_ouI {k : Nat} {ms : List PM} {os : List D} : outE (.io k :: ms) (d :: os) = some (.own k, d) :: outE ms os := rfl
theorem y_ouV {ms : List PM} {os : List D} : outE (.val :: ms) os = none :: outE ms os := by cases os <;> rfl
theorem y_ouB {k : Nat} {ms : List PM} {os : List D} : outE (.br k :: ms) os = none :: outE ms os := by cases os <;> rfl
theorem y_lfI : isLeaf (.int i) = true := rfl
theorem y_lfS : isLeaf (.str x) = true := rfl
theorem y_lfT : isLeaf (.tuple xs) = true := rfl
theorem y_lfN : isLeaf .none = true := rfl
theorem y_lfB {b : Bool} : isLeaf (.bool b) = true := rfl
theorem seq_mid {a b : WS} {P : K4} (Mid : En → Prop) (ha : ∀ N : En → Prop, (∀ e, Mid e → N e) → a env { P with nx := N }) (hb : ∀ e, Mid e → b e P) : wSeq a b env P := ha _ hb
theorem y_setE0 {is : List Nat} : setE env is [] = env := by cases is <;> rfl
theorem y_setE1 {k : Nat} {is : List Nat} {ps : List (Nat × D)} : setE env (k :: is) ((n, d) :: ps) = setE (env.set k (some (.own n, d))) is ps := rfl
/-- one key -/
theorem y_pl {k : Nat} {key : Key} {R : QE} : wPl (.k (.s k) (.c key)) env R = seenAt env[k]? fun n d => ∃ c, child n d key = some c ∧ (c.1 = 0 ∨ isLeaf c.2 = true) ∧ R 0 c.2 env := by
  show fetch env (.sl k) _ = _
  rw [y_fetS]
  congr 1
  funext n d
  apply propext
  constructor
  · rintro ⟨ks, m, c, h1, h2, h3⟩
    cases h1
    obtain ⟨x, e1, e2⟩ := Option.bind_eq_some_iff.mp h2
    cases e2
    exact ⟨_, e1, h3⟩
  · rintro ⟨c, e1, h⟩
    exact ⟨[.key key], c.1, c.2, rfl, Option.bind_eq_some_iff.mpr ⟨c, e1, rfl⟩, h⟩
theorem y_un {k : Nat} {key : Key} {w : OW} {R : QE} : wUn w (.k (.s k) (.c key)) env R = seenAt env[k]? fun n d => ∃ c, child n d key = some c ∧ w [(c.1, c.2)] fun n z => R n z env := by
  show fetch env (.sl k) _ = _
  rw [y_fetS]
  congr 1
  funext n d
  apply propext
  constructor
  · rintro ⟨ks, m, c, h1, h2, h3⟩
    cases h1
    obtain ⟨x, e1, e2⟩ := Option.bind_eq_some_iff.mp h2
    cases e2
    exact ⟨_, e1, h3⟩
  · rintro ⟨c, e1, h⟩
    exact ⟨[.key key], c.1, c.2, rfl, Option.bind_eq_some_iff.mpr ⟨c, e1, rfl⟩, h⟩
theorem y_put {k : Nat} {key : Key} {z : D} {a : Nat} {R : En → Prop} : wPut (.s k) (.c key) a z env R = ownAt env[k]? fun n d => 0 < n ∧ fit a (n - 1) z ∧ ∃ c, cput d key z = some c ∧ R (env.set k (some (.own n, c))) := by
  rw [← own_iff]
  apply propext
  constructor
  · rintro ⟨n, d, ks, key', m, c, c', h1, h2, h3, h4, h5, h6, h7⟩
    cases h2
    cases h3
    cases h4
    exact ⟨_, _, h1, Nat.succ_pos m, h5, c', h6, h7⟩
  · rintro ⟨n, d, h1, h0, h5, c', h6, h7⟩
    obtain ⟨m, rfl⟩ : ∃ m, n = m + 1 := ⟨n - 1, by omega⟩
    exact ⟨m + 1, d, [], key, m, d, c', h1, rfl, rfl, rfl, h5, h6, h7⟩
theorem y_pop0 {k : Nat} {R : QE} : wPop (.s k) env R = ownAt env[k]? fun n d => ∃ xs z, n = 1 ∧ d = .list xs ∧ xs.getLast? = some z ∧ R 0 z (env.set k (some (.own 1, .list xs.dropLast))) := by
  rw [← own_iff]
  apply propext
  constructor
  · rintro ⟨n, d, ks, xs, z, h1, h2, h3, h4, h5⟩
    cases h2
    have e3 : (n, d) = (1, PyData.list xs) := Option.some.inj h3
    cases e3
    exact ⟨_, _, h1, xs, z, rfl, rfl, h4, h5⟩
  · rintro ⟨n, d, h1, xs, z, rfl, rfl, h4, h5⟩
    exact ⟨1, _, [], xs, z, h1, rfl, rfl, h4, h5⟩
theorem y_pop1 {k : Nat} {key : Key} {R : QE} : wPop (.k (.s k) (.c key)) env R = ownAt env[k]? fun n d => ∃ xs z, child n d key = some (1, .list xs) ∧ xs.getLast? = some z ∧ R 0 z (env.set k (some (.own n, cset d key (.list xs.dropLast)))) := by
  rw [← own_iff]
  apply propext
  constructor
  · rintro ⟨n, d, ks, xs, z, h1, h2, h3, h4, h5⟩
    cases h2
    obtain ⟨⟨x1, x2⟩, e1, e2⟩ := Option.bind_eq_some_iff.mp h3
    have e3 : (x1, x2) = (1, PyData.list xs) := Option.some.inj e2
    cases e3
    refine ⟨_, _, h1, xs, z, e1, h4, ?_⟩
    obtain ⟨m', e3⟩ := child_n e1 1
    have h5' : R 0 z (env.set k (some (.own n, dset d [.key key] (.list xs.dropLast)))) := h5
    simpa [dset, pset, pchild, e3] using h5'
  · rintro ⟨n, d, h1, xs, z, e1, h4, h5⟩
    refine ⟨n, d, [.key key], xs, z, h1, rfl, Option.bind_eq_some_iff.mpr ⟨_, e1, rfl⟩, h4, ?_⟩
    obtain ⟨m', e3⟩ := child_n e1 1
    show R 0 z (env.set k _)
    simpa [dset, pset, pchild, e3] using h5
end
end Sq
/-! Sq23: where the laws' drawings come from -/
namespace Sq
open PySem PySem.Spec PyProof.Rows L2
def srcD (c : List Int) (l m t : Int) : D := .dict [(.str "cells", .list (c.map .int)), (.str "left", .int l), (.str "mixed", .int m), (.str "turn", .int t)]
section
variable {n : Nat} {c c' : List Int} {l m t i : Int}
theorem src_cells : child n (srcD c l m t) (.inr "cells") = some (n - 1, .list (c.map .int)) := rfl
theorem src_left : child n (srcD c l m t) (.inr "left") = some (n - 1, .int l) := rfl
theorem src_mixed : child n (srcD c l m t) (.inr "mixed") = some (n - 1, .int m) := rfl
theorem src_turn : child n (srcD c l m t) (.inr "turn") = some (n - 1, .int t) := rfl
theorem put_left : cput (srcD c l m t) (.inr "left") (.int i) = some (srcD c i m t) := rfl
theorem put_mixed : cput (srcD c l m t) (.inr "mixed") (.int i) = some (srcD c l i t) := rfl
theorem put_turn : cput (srcD c l m t) (.inr "turn") (.int i) = some (srcD c l m i) := rfl
theorem set_cells : cset (srcD c l m t) (.inr "cells") (.list (c'.map .int)) = srcD c' l m t := rfl
end
/-- a source from which at most N numbers were mixed anew -/
def Src (N : Nat) (d : D) : Prop := ∃ (c : List Int) (l m t : Int), d = srcD c l m t ∧ (∀ x ∈ c, 0 ≤ x) ∧ 0 ≤ l ∧ 0 ≤ m ∧ m < 2147483648 ∧ 0 ≤ t ∧ t ≤ N
theorem Src.mono {N M : Nat} {d : D} (h : Src N d) (k : N ≤ M) : Src M d := by
  obtain ⟨c, l, m, t, e, h1, h2, h3, h4, h5, h6⟩ := h
  exact ⟨c, l, m, t, e, h1, h2, h3, h4, h5, by omega⟩
def q_source_1 : WS := (wSeq (wAsg (wOp oMod (wCons (wEx (wOp oInt (wCons (wEx (wOp oAdd (wCons (wEx (wOp oAdd (wCons (wEx (wOp oMul (wCons (wSl 1) (wCons (wEx (wC (.int 69069))) wNil)))) (wCons (wEx (wOp oMul (wCons (wSl 2) (wCons (wEx (wC (.int 31))) wNil)))) wNil)))) (wCons (wEx (wC (.int 5))) wNil)))) wNil))) (wCons (wEx (wC (.int 2147483629))) wNil))) (wNmG 1)) wNext)
def q_source : WS := (wSeq (wAsg (wC (.int 11)) (wNmG 1)) (wSeq (wFor (wiSeq (wSl 0)) (wNmG 2) q_source_1) (wSeq (wRet (wDisp [.inr "cells", .inr "left", .inr "mixed", .inr "turn"] 1 [(wOp oRev (wCons (wEx (wComp (wiSeq (wSl 0)) (wNmG 2) wYes (wOp oAbs (wCons (wSl 2) wNil)) [2] 0)) wNil)), (wC (.int 1)), (wVar 1), (wC (.int 0))])) wNext)))
def q_pick_1 : WS := (wSeq (wAsg (wPop (.k (.s 0) (.c (.inr "cells")))) (wPut (.s 0) (.c (.inr "left")))) wNext)
def q_pick : WS := (wSeq (wWhile (wAndT (wT (wOp oGt (wCons (wSl 1) (wCons (wEx (wC (.int 1))) wNil)))) (wAndT (wT (wOp oLt (wCons (wEx (wPl (.k (.s 0) (.c (.inr "left"))))) (wCons (wEx (wC (.int 2))) wNil)))) (wT (wOp oGt (wCons (wEx (wUn oLen (.k (.s 0) (.c (.inr "cells"))))) (wCons (wEx (wC (.int 0))) wNil)))))) q_pick_1) (wSeq (wAsg (wPl (.k (.s 0) (.c (.inr "left")))) (wNmG 2)) (wSeq (wIf (wOrT (wT (wOp oLt (wCons (wSl 1) (wCons (wEx (wC (.int 2))) wNil)))) (wT (wOp oGt (wCons (wSl 2) (wCons (wEx (wC (.int 1))) wNil))))) (wSeq (wAsg (wOp oDiv (wCons (wSl 2) (wCons (wEx (wOp oMax2 (wCons (wEx (wC (.int 1))) (wCons (wSl 1) wNil)))) wNil))) (wPut (.s 0) (.c (.inr "left")))) (wSeq (wRet (wOp oMod (wCons (wEx (wOp oInt (wCons (wSl 2) wNil))) (wCons (wEx (wOp oMax2 (wCons (wEx (wC (.int 1))) (wCons (wSl 1) wNil)))) wNil)))) wNext)) wNext) (wSeq (wAsg (wOp oAdd (wCons (wEx (wPl (.k (.s 0) (.c (.inr "turn"))))) (wCons (wEx (wC (.int 1))) wNil))) (wPut (.s 0) (.c (.inr "turn")))) (wSeq (wAsg (wOp oMod (wCons (wEx (wOp oInt (wCons (wEx (wOp oAdd (wCons (wEx (wPl (.k (.s 0) (.c (.inr "mixed"))))) (wCons (wEx (wOp oMul (wCons (wEx (wPl (.k (.s 0) (.c (.inr "turn"))))) (wCons (wEx (wC (.int 104729))) wNil)))) wNil)))) wNil))) (wCons (wEx (wC (.int 998244353))) wNil))) (wNmG 3)) (wSeq (wAsg (wOp oMod (wCons (wEx (wOp oInt (wCons (wEx (wOp oAdd (wCons (wEx (wOp oMul (wCons (wSl 3) (wCons (wSl 3) wNil)))) (wCons (wEx (wOp oMul (wCons (wEx (wPl (.k (.s 0) (.c (.inr "turn"))))) (wCons (wEx (wC (.int 17))) wNil)))) wNil)))) wNil))) (wCons (wEx (wC (.int 2147483647))) wNil))) (wNmG 3)) (wSeq (wAsg (wVar 3) (wPut (.s 0) (.c (.inr "mixed")))) (wSeq (wRet (wOp oMod (wCons (wEx (wOp oInt (wCons (wEx (wOp oDiv (wCons (wSl 3) (wCons (wEx (wC (.int 16))) wNil)))) wNil))) (wCons (wSl 1) wNil)))) wNext))))))))
/-- a drawn number -/
def F_pick : FS where
  ms := [.io 2, .val]
  sp := fun ds R => ∃ N src many, ds = [src, .int many] ∧ Src N src ∧ N ≤ 2 ^ 60 ∧ many.natAbs.log2 < 8000 ∧ ∀ r src', 0 ≤ r → r < max 1 many → Src (N + 1) src' → R 0 (.int r) [src']
def q_of : WS := (wSeq (wRet (wOp oIx (wCons (wSl 1) (wCons (wEx (wCall F_pick (wCons (wSl 0) (wCons (wEx (wOp oLen (wCons (wSl 1) wNil))) wNil)))) wNil)))) wNext)
/-- a drawn thing of a list -/
def F_of : FS where
  ms := [.io 2, .val]
  sp := fun ds R => ∃ N src d xs, ds = [src, d] ∧ (d = .list xs ∨ d = .tuple xs) ∧ Src N src ∧ N ≤ 2 ^ 60 ∧ 0 < xs.length ∧ xs.length ≤ sizeLine ∧ ∀ x ∈ xs, ∀ src', Src (N + 1) src' → R 0 x [src']
theorem pick_ms : F_pick.ms = [.io 2, .val] := rfl
theorem pick_sp {src : D} {many : Int} {R : Nat → D → List D → Prop} : F_pick.sp [src, .int many] R = ∃ N, Src N src ∧ N ≤ 2 ^ 60 ∧ many.natAbs.log2 < 8000 ∧ ∀ r src', 0 ≤ r → r < max 1 many → Src (N + 1) src' → R 0 (.int r) [src'] := by
  apply propext
  constructor
  · rintro ⟨N, _, _, e, h⟩
    cases e
    exact ⟨N, h⟩
  · rintro ⟨N, h⟩
    exact ⟨N, _, _, rfl, h⟩
theorem of_ms : F_of.ms = [.io 2, .val] := rfl
theorem of_sp {src : D} {xs : List D} {R : Nat → D → List D → Prop} : F_of.sp [src, .list xs] R = ∃ N, Src N src ∧ N ≤ 2 ^ 60 ∧ 0 < xs.length ∧ xs.length ≤ sizeLine ∧ ∀ x ∈ xs, ∀ src', Src (N + 1) src' → R 0 x [src'] := by
  apply propext
  constructor
  · rintro ⟨N, _, _, _, e, o, h⟩
    cases e
    rcases o with o | o <;> cases o
    exact ⟨N, h⟩
  · rintro ⟨N, h⟩
    exact ⟨N, _, _, _, rfl, .inl rfl, h⟩
theorem of_spT {src : D} {xs : List D} {R : Nat → D → List D → Prop} : F_of.sp [src, .tuple xs] R = ∃ N, Src N src ∧ N ≤ 2 ^ 60 ∧ 0 < xs.length ∧ xs.length ≤ sizeLine ∧ ∀ x ∈ xs, ∀ src', Src (N + 1) src' → R 0 x [src'] := by
  apply propext
  constructor
  · rintro ⟨N, _, _, _, e, o, h⟩
    cases e
    rcases o with o | o <;> cases o
    exact ⟨N, h⟩
  · rintro ⟨N, h⟩
    exact ⟨N, _, _, _, rfl, .inr rfl, h⟩
theorem mulB_small {i j : Int} (h : i.natAbs < 2 ^ 1000) (k : j.natAbs < 2 ^ 1000) : CMulB i j := by
  have l : ∀ n : Nat, n < 2 ^ 1000 → n.log2 < 1000 := fun n hn => by
    by_cases z : n = 0
    · subst z; decide
    · exact (Nat.log2_lt z).mpr hn
  have h1 := l _ h
  have h2 := l _ k
  show i.natAbs.log2 + j.natAbs.log2 < 134000000
  omega
local macro_rules | `(tactic| walk_at "z1") => `(tactic| simp only [x_wC, x_wEx, x_wNil, x_wCons, x_wOp, x_wT, x_wAndT, x_wOrT, x_wNotT, x_wIte, x_wAndV, x_wOrV, x_wNotV, x_wChain, x_wTru, x_wFz, x_wTup, x_wLst, x_wStar, x_wP0, x_wP1, x_wCut, x_wNext, x_wBrk, x_wCnt, x_wNever, x_wSeq, x_wNm, y_gn, y_gc, y_tp, x_wNmG, x_wAsg, x_wExpr, x_wRet, x_wRetN, x_wIf, x_wFor, x_wComp, x_wYes, x_wiSeq, x_wiEnum, x_wiRange1, x_wiRange2, y_par, y_al0, y_alC, y_app, x_wDisp, x_wDNew, x_wDNewT, x_wCall, x_wiZip, x_tmp, x_fs0, x_fs1, y_add, y_addS, y_addL, y_addT, y_sub, y_mul, y_rep, y_div, y_mod, y_pow, y_eq, y_eqS, y_eqL, y_eqT, y_ne, y_neS, y_neL, y_neT, y_lt, y_le, y_gt, y_ge, y_isN, y_notN, y_nNone, y_nInt, y_nStr, y_nTup, y_nLst, y_lenL, y_lenT, y_lenS, y_abs, y_max, y_min, y_int, y_intB, y_tupL, y_tupT, y_lstL, y_lstT, y_repr, y_neg, y_ixL, y_ixT, y_cutL, y_cutT, y_rev, y_starT, y_starL, y_starKT, y_starKL, y_itT, y_itKT, y_plain, y_itS, y_itKS, y_var, y_own, y_mv, y_seen, y_seenL, y_fetS, y_sl, y_tm0, y_tmS, y_tmI, y_tmT, y_tmX, y_tmN, y_tn0, y_tnC, y_mapS, y_io0, y_ioV, y_ioB, io_ex, y_nx, y_rt, y_fit0, y_fitT, y_fitN, y_fitX, y_fitS, y_setE0, y_setE1, y_pl, y_un, y_put, y_pop1, List.getElem?_cons_zero, List.getElem?_cons_succ, List.set_cons_zero, List.set_cons_succ, Option.some.injEq, PyData.int.injEq, PyData.bool.injEq, PyData.tuple.injEq, PyData.list.injEq, Prod.mk.injEq, Md.own.injEq, exists_eq_left', exists_eq_left, exists_eq', exists_eq, true_and, and_true, and_self, List.length_cons, List.length_nil, wipeE, restE, decide_eq_true_eq, Bool.not_eq_true', decide_eq_false_iff_not, Nat.reduceAdd, Nat.reduceLT, Nat.reduceLeDiff, Nat.zero_le, Nat.le_refl, waOf, List.map_cons, List.map_nil, Nat.zero_add, List.nil_append, Nat.lt_add_one, y_lfI, y_lfS, y_lfT, y_lfN, y_lfB, or_true, Nat.reduceSub, Nat.add_one_sub_one, List.map_append, List.length_map, exists_and_left, ↓reduceIte, Nat.lt_irrefl, y_po0, y_poS, y_poN, y_ou0, y_ouI, y_ouV, y_ouB, Bool.true_eq_false, Bool.false_eq_true, reduceCtorEq, a_nil, a_cons, a_vt, a_vs, a_is, a_bs, a_bt, a_v0, a_vl, a_vi, a_i0, a_b0, a_bl, y_bind, ok_0, ok_1, ok_2, ok_3, ok_4, ok_5, ok_6, ok_i1, ok_i2, ok_i3, ok_i4, ok_i5, ok_i6, Option.getD_some, Option.getD_none, y_appB, at_0, at_1, at_2, at_3, y_chL, y_chT, not_true_eq_false, not_false_eq_true, true_or, y_pop0, src_cells, src_left, src_turn, src_mixed])
local macro_rules | `(tactic| walk_at "z2") => `(tactic| simp only [x_wC, x_wEx, x_wNil, x_wCons, x_wOp, x_wT, x_wAndT, x_wOrT, x_wNotT, x_wIte, x_wAndV, x_wOrV, x_wNotV, x_wChain, x_wTru, x_wFz, x_wTup, x_wLst, x_wStar, x_wP0, x_wP1, x_wCut, x_wNext, x_wBrk, x_wCnt, x_wNever, x_wSeq, x_wNm, y_gn, y_gc, y_tp, x_wNmG, x_wAsg, x_wExpr, x_wRet, x_wRetN, x_wIf, x_wFor, x_wComp, x_wYes, x_wiSeq, x_wiEnum, x_wiRange1, x_wiRange2, y_par, y_al0, y_alC, y_app, x_wDisp, x_wDNew, x_wDNewT, x_wCall, x_wiZip, x_tmp, x_fs0, x_fs1, y_add, y_addS, y_addL, y_addT, y_sub, y_mul, y_rep, y_div, y_mod, y_pow, y_eq, y_eqS, y_eqL, y_eqT, y_ne, y_neS, y_neL, y_neT, y_lt, y_le, y_gt, y_ge, y_isN, y_notN, y_nNone, y_nInt, y_nStr, y_nTup, y_nLst, y_lenL, y_lenT, y_lenS, y_abs, y_max, y_min, y_int, y_intB, y_tupL, y_tupT, y_lstL, y_lstT, y_repr, y_neg, y_ixL, y_ixT, y_cutL, y_cutT, y_rev, y_starT, y_starL, y_starKT, y_starKL, y_itT, y_itKT, y_plain, y_itS, y_itKS, y_var, y_own, y_mv, y_seen, y_seenL, y_fetS, y_sl, y_tm0, y_tmS, y_tmI, y_tmT, y_tmX, y_tmN, y_tn0, y_tnC, y_mapS, y_io0, y_ioV, y_ioB, io_ex, y_nx, y_rt, y_fit0, y_fitT, y_fitN, y_fitX, y_fitS, y_setE0, y_setE1, y_pl, y_un, y_put, y_pop1, List.getElem?_cons_zero, List.getElem?_cons_succ, List.set_cons_zero, List.set_cons_succ, Option.some.injEq, PyData.int.injEq, PyData.bool.injEq, PyData.tuple.injEq, PyData.list.injEq, Prod.mk.injEq, Md.own.injEq, exists_eq_left', exists_eq_left, exists_eq', exists_eq, true_and, and_true, and_self, List.length_cons, List.length_nil, wipeE, restE, decide_eq_true_eq, Bool.not_eq_true', decide_eq_false_iff_not, Nat.reduceAdd, Nat.reduceLT, Nat.reduceLeDiff, Nat.zero_le, Nat.le_refl, waOf, List.map_cons, List.map_nil, Nat.zero_add, List.nil_append, Nat.lt_add_one, y_lfI, y_lfS, y_lfT, y_lfN, y_lfB, or_true, Nat.reduceSub, Nat.add_one_sub_one, List.map_append, List.length_map, exists_and_left, ↓reduceIte, Nat.lt_irrefl, y_po0, y_poS, y_poN, y_ou0, y_ouI, y_ouV, y_ouB, Bool.true_eq_false, Bool.false_eq_true, reduceCtorEq, a_nil, a_cons, a_vt, a_vs, a_is, a_bs, a_bt, a_v0, a_vl, a_vi, a_i0, a_b0, a_bl, y_bind, ok_0, ok_1, ok_2, ok_3, ok_4, ok_5, ok_6, ok_i1, ok_i2, ok_i3, ok_i4, ok_i5, ok_i6, Option.getD_some, Option.getD_none, y_appB, at_0, at_1, at_2, at_3, y_chL, y_chT, not_true_eq_false, not_false_eq_true, true_or, y_pop0, src_cells, set_cells, List.getLast?_concat, List.dropLast_concat, put_left])
local macro_rules | `(tactic| walk_at "z3") => `(tactic| simp only [x_wC, x_wEx, x_wNil, x_wCons, x_wOp, x_wT, x_wAndT, x_wOrT, x_wNotT, x_wIte, x_wAndV, x_wOrV, x_wNotV, x_wChain, x_wTru, x_wFz, x_wTup, x_wLst, x_wStar, x_wP0, x_wP1, x_wCut, x_wNext, x_wBrk, x_wCnt, x_wNever, x_wSeq, x_wNm, y_gn, y_gc, y_tp, x_wNmG, x_wAsg, x_wExpr, x_wRet, x_wRetN, x_wIf, x_wFor, x_wComp, x_wYes, x_wiSeq, x_wiEnum, x_wiRange1, x_wiRange2, y_par, y_al0, y_alC, y_app, x_wDisp, x_wDNew, x_wDNewT, x_wCall, x_wiZip, x_tmp, x_fs0, x_fs1, y_add, y_addS, y_addL, y_addT, y_sub, y_mul, y_rep, y_div, y_mod, y_pow, y_eq, y_eqS, y_eqL, y_eqT, y_ne, y_neS, y_neL, y_neT, y_lt, y_le, y_gt, y_ge, y_isN, y_notN, y_nNone, y_nInt, y_nStr, y_nTup, y_nLst, y_lenL, y_lenT, y_lenS, y_abs, y_max, y_min, y_int, y_intB, y_tupL, y_tupT, y_lstL, y_lstT, y_repr, y_neg, y_ixL, y_ixT, y_cutL, y_cutT, y_rev, y_starT, y_starL, y_starKT, y_starKL, y_itT, y_itKT, y_plain, y_itS, y_itKS, y_var, y_own, y_mv, y_seen, y_seenL, y_fetS, y_sl, y_tm0, y_tmS, y_tmI, y_tmT, y_tmX, y_tmN, y_tn0, y_tnC, y_mapS, y_io0, y_ioV, y_ioB, io_ex, y_nx, y_rt, y_fit0, y_fitT, y_fitN, y_fitX, y_fitS, y_setE0, y_setE1, y_pl, y_un, y_put, y_pop1, List.getElem?_cons_zero, List.getElem?_cons_succ, List.set_cons_zero, List.set_cons_succ, Option.some.injEq, PyData.int.injEq, PyData.bool.injEq, PyData.tuple.injEq, PyData.list.injEq, Prod.mk.injEq, Md.own.injEq, exists_eq_left', exists_eq_left, exists_eq', exists_eq, true_and, and_true, and_self, List.length_cons, List.length_nil, wipeE, restE, decide_eq_true_eq, Bool.not_eq_true', decide_eq_false_iff_not, Nat.reduceAdd, Nat.reduceLT, Nat.reduceLeDiff, Nat.zero_le, Nat.le_refl, waOf, List.map_cons, List.map_nil, Nat.zero_add, List.nil_append, Nat.lt_add_one, y_lfI, y_lfS, y_lfT, y_lfN, y_lfB, or_true, Nat.reduceSub, Nat.add_one_sub_one, List.map_append, List.length_map, exists_and_left, ↓reduceIte, Nat.lt_irrefl, y_po0, y_poS, y_poN, y_ou0, y_ouI, y_ouV, y_ouB, Bool.true_eq_false, Bool.false_eq_true, reduceCtorEq, a_nil, a_cons, a_vt, a_vs, a_is, a_bs, a_bt, a_v0, a_vl, a_vi, a_i0, a_b0, a_bl, y_bind, ok_0, ok_1, ok_2, ok_3, ok_4, ok_5, ok_6, ok_i1, ok_i2, ok_i3, ok_i4, ok_i5, ok_i6, Option.getD_some, Option.getD_none, y_appB, at_0, at_1, at_2, at_3, y_chL, y_chT, not_true_eq_false, not_false_eq_true, true_or, y_pop0, src_cells, src_left, src_turn, src_mixed, put_left, put_turn, put_mixed])
theorem law_pick (ds : List D) (R : Nat → D → List D → Prop) (h : F_pick.sp ds R) : q_pick (entE [.io 2, .val] ds ++ List.replicate 2 none) (endK [.io 2, .val] R) := by
  obtain ⟨N, src, many, rfl, ⟨c, l, m, t, rfl, hc, hl, hm, hm2, ht, ht2⟩, hN, hmany, hR⟩ := h
  unfold q_pick
  show (wSeq _ _) [some (.own 2, srcD c l m t), some (.own 0, .int many), none, none] _
  refine seq_mid (fun e => ∃ c l, e = [some (.own 2, srcD c l m t), some (.own 0, .int many), none, none] ∧ (∀ x ∈ c, 0 ≤ x) ∧ 0 ≤ l) (fun V hV => ?_) ?_
  · refine while_inv (n := c.length) (fun k e => ∃ c l, e = [some (.own 2, srcD c l m t), some (.own 0, .int many), none, none] ∧ c.length = k ∧ (∀ x ∈ c, 0 ≤ x) ∧ 0 ≤ l) ⟨c, l, rfl, rfl, hc, hl⟩ ?_
    rintro k e ⟨c, l, rfl, hk, hc, hl⟩ W hW
    have out := hV _ ⟨c, l, rfl, hc, hl⟩
    walk_at "z1"
    split
    · split
      · split
        · rename_i h1 h2 h3
          unfold q_pick_1
          obtain ⟨d, z, rfl⟩ : ∃ d z, c = d ++ [z] := ⟨c.dropLast, c.getLast (by rintro rfl; simp at h3), (List.dropLast_concat_getLast _).symm⟩
          walk_at "z2"
          refine (hW d.length _ (by simp at hk; omega) ⟨d, z, rfl, rfl, fun x hx => hc x (List.mem_append_left _ hx), hc z (by simp)⟩)
        · exact out
      · exact out
    · exact out
  · rintro e ⟨c, l, rfl, hc, hl⟩
    have m1 : 0 < max 1 many := by omega
    have hN' : (N : Int) ≤ 2 ^ 60 := by exact_mod_cast hN
    have big : ∀ z : Int, 0 ≤ z → z ≤ 2 ^ 62 → z.natAbs < 2 ^ 1000 := fun z h0 h => by
      have e1 : (2 : Nat) ^ 62 ≤ 2 ^ 1000 := Nat.pow_le_pow_right (by decide) (by decide)
      have e2 : (2 : Int) ^ 62 = ((2 ^ 62 : Nat) : Int) := by norm_cast
      omega
    have log1 : (max 1 many).natAbs.log2 < 9000 := by
      by_cases h : 1 ≤ many
      · rw [Int.max_eq_right h]; omega
      · rw [Int.max_eq_left (by omega)]; decide
    walk_at "z3"
    have first : ∀ {A : Nat → D → List D → Prop}, (∀ r src', 0 ≤ r → r < max 1 many → Src (N + 1) src' → A 0 (.int r) [src']) → A 0 (.int (l % max 1 many)) [srcD c (l / max 1 many) m t] := fun h =>
      h _ _ (Int.emod_nonneg _ (by omega)) (Int.emod_lt_of_pos _ m1) ⟨c, _, m, t, rfl, hc, Int.ediv_nonneg hl (by omega), hm, hm2, ht, by omega⟩
    have small1 : 0 < max 1 many ∧ (max 1 many).natAbs.log2 < 9000 ∧ 0 < max 1 many ∧ R 0 (.int (l % max 1 many)) [srcD c (l / max 1 many) m t] := ⟨m1, log1, m1, first hR⟩
    split
    · exact small1
    · rename_i h2
      split
      · exact small1
      · have a0 := Int.emod_nonneg (m + (t + 1) * 104729) (show (998244353 : Int) ≠ 0 by decide)
        have a1 := Int.emod_lt_of_pos (m + (t + 1) * 104729) (show (0 : Int) < 998244353 by decide)
        generalize (m + (t + 1) * 104729) % 998244353 = u at a0 a1 ⊢
        have b0 := Int.emod_nonneg (u * u + (t + 1) * 17) (show (2147483647 : Int) ≠ 0 by decide)
        have b1 := Int.emod_lt_of_pos (u * u + (t + 1) * 17) (show (0 : Int) < 2147483647 by decide)
        refine ⟨mulB_small (big _ (by omega) (by omega)) (big _ (by decide) (by decide)), by decide, mulB_small (big _ a0 (by omega)) (big _ a0 (by omega)), mulB_small (big _ (by omega) (by omega)) (big _ (by decide) (by decide)), by decide, by decide, by decide, by omega, ?_⟩
        refine hR _ _ (Int.emod_nonneg _ (by omega)) (Int.lt_of_lt_of_le (Int.emod_lt_of_pos _ (by omega)) (by omega)) ⟨c, l, _, _, rfl, hc, hl, b0, by omega, by omega, by omega⟩
local macro_rules | `(tactic| walk_at "z4") => `(tactic| simp only [x_wC, x_wEx, x_wNil, x_wCons, x_wOp, x_wT, x_wAndT, x_wOrT, x_wNotT, x_wIte, x_wAndV, x_wOrV, x_wNotV, x_wChain, x_wTru, x_wFz, x_wTup, x_wLst, x_wStar, x_wP0, x_wP1, x_wCut, x_wNext, x_wBrk, x_wCnt, x_wNever, x_wSeq, x_wNm, y_gn, y_gc, y_tp, x_wNmG, x_wAsg, x_wExpr, x_wRet, x_wRetN, x_wIf, x_wFor, x_wComp, x_wYes, x_wiSeq, x_wiEnum, x_wiRange1, x_wiRange2, y_par, y_al0, y_alC, y_app, x_wDisp, x_wDNew, x_wDNewT, x_wCall, x_wiZip, x_tmp, x_fs0, x_fs1, y_add, y_addS, y_addL, y_addT, y_sub, y_mul, y_rep, y_div, y_mod, y_pow, y_eq, y_eqS, y_eqL, y_eqT, y_ne, y_neS, y_neL, y_neT, y_lt, y_le, y_gt, y_ge, y_isN, y_notN, y_nNone, y_nInt, y_nStr, y_nTup, y_nLst, y_lenL, y_lenT, y_lenS, y_abs, y_max, y_min, y_int, y_intB, y_tupL, y_tupT, y_lstL, y_lstT, y_repr, y_neg, y_ixL, y_ixT, y_cutL, y_cutT, y_rev, y_starT, y_starL, y_starKT, y_starKL, y_itT, y_itKT, y_plain, y_itS, y_itKS, y_var, y_own, y_mv, y_seen, y_seenL, y_fetS, y_sl, y_tm0, y_tmS, y_tmI, y_tmT, y_tmX, y_tmN, y_tn0, y_tnC, y_mapS, y_io0, y_ioV, y_ioB, io_ex, y_nx, y_rt, y_fit0, y_fitT, y_fitN, y_fitX, y_fitS, y_setE0, y_setE1, y_pl, y_un, y_put, y_pop1, List.getElem?_cons_zero, List.getElem?_cons_succ, List.set_cons_zero, List.set_cons_succ, Option.some.injEq, PyData.int.injEq, PyData.bool.injEq, PyData.tuple.injEq, PyData.list.injEq, Prod.mk.injEq, Md.own.injEq, exists_eq_left', exists_eq_left, exists_eq', exists_eq, true_and, and_true, and_self, List.length_cons, List.length_nil, wipeE, restE, decide_eq_true_eq, Bool.not_eq_true', decide_eq_false_iff_not, Nat.reduceAdd, Nat.reduceLT, Nat.reduceLeDiff, Nat.zero_le, Nat.le_refl, waOf, List.map_cons, List.map_nil, Nat.zero_add, List.nil_append, Nat.lt_add_one, y_lfI, y_lfS, y_lfT, y_lfN, y_lfB, or_true, Nat.reduceSub, Nat.add_one_sub_one, List.map_append, List.length_map, exists_and_left, ↓reduceIte, Nat.lt_irrefl, y_po0, y_poS, y_poN, y_ou0, y_ouI, y_ouV, y_ouB, Bool.true_eq_false, Bool.false_eq_true, reduceCtorEq, a_nil, a_cons, a_vt, a_vs, a_is, a_bs, a_bt, a_v0, a_vl, a_vi, a_i0, a_b0, a_bl, y_bind, ok_0, ok_1, ok_2, ok_3, ok_4, ok_5, ok_6, ok_i1, ok_i2, ok_i3, ok_i4, ok_i5, ok_i6, Option.getD_some, Option.getD_none, y_appB, at_0, at_1, at_2, at_3, y_chL, y_chT, not_true_eq_false, not_false_eq_true, true_or, y_pop0, pick_ms, pick_sp])
theorem law_of (ds : List D) (R : Nat → D → List D → Prop) (h : F_of.sp ds R) : q_of (entE [.io 2, .val] ds ++ List.replicate 0 none) (endK [.io 2, .val] R) := by
  obtain ⟨N, src, d, xs, rfl, hd, hs, hN, hx, hz, hR⟩ := h
  unfold q_of
  show (wSeq _ _) [some (.own 2, src), some (.own 0, d)] _
  have lx : (xs.length : Int).natAbs.log2 < 8000 := by
    have : xs.length ≤ 2 ^ 64 := Nat.le_trans hz (by decide)
    by_cases z : xs.length = 0
    · omega
    · have := (Nat.log2_lt (k := 65) z).mpr (by omega)
      show xs.length.log2 < 8000
      omega
  rcases hd with rfl | rfl
  all_goals
    walk_at "z4"
    refine ⟨N, hs, hN, lx, ?_⟩
    intro r src' h0 h1 hs'
    have hr : r.toNat < xs.length := by omega
    exact ⟨xs[r.toNat], at_int h0 (List.getElem?_eq_getElem hr), hR _ (List.getElem_mem hr) _ hs'⟩
def F_source : FS where
  ms := [.val]
  sp := fun ds R => ∃ ns : List Int, ds = [.list (ns.map .int)] ∧ ns.length ≤ 1000 ∧ (∀ z ∈ ns, Builtin.Int.intBits z ≤ 1048576) ∧ ∀ src, Src 0 src → R 2 src []
theorem source_ms : F_source.ms = [.val] := rfl
theorem source_sp {xs : List D} {R : Nat → D → List D → Prop} : F_source.sp [.list xs] R = ∃ ns : List Int, xs = ns.map .int ∧ ns.length ≤ 1000 ∧ (∀ z ∈ ns, Builtin.Int.intBits z ≤ 1048576) ∧ ∀ src, Src 0 src → R 2 src [] := by
  apply propext
  constructor
  · rintro ⟨ns, e, h⟩
    cases e
    exact ⟨ns, rfl, h⟩
  · rintro ⟨ns, rfl, h⟩
    exact ⟨ns, rfl, h⟩
local macro_rules | `(tactic| walk_at "z5") => `(tactic| simp only [x_wC, x_wEx, x_wNil, x_wCons, x_wOp, x_wT, x_wAndT, x_wOrT, x_wNotT, x_wIte, x_wAndV, x_wOrV, x_wNotV, x_wChain, x_wTru, x_wFz, x_wTup, x_wLst, x_wStar, x_wP0, x_wP1, x_wCut, x_wNext, x_wBrk, x_wCnt, x_wNever, x_wSeq, x_wNm, y_gn, y_gc, y_tp, x_wNmG, x_wAsg, x_wExpr, x_wRet, x_wRetN, x_wIf, x_wFor, x_wComp, x_wYes, x_wiSeq, x_wiEnum, x_wiRange1, x_wiRange2, y_par, y_al0, y_alC, y_app, x_wDisp, x_wDNew, x_wDNewT, x_wCall, x_wiZip, x_tmp, x_fs0, x_fs1, y_add, y_addS, y_addL, y_addT, y_sub, y_mul, y_rep, y_div, y_mod, y_pow, y_eq, y_eqS, y_eqL, y_eqT, y_ne, y_neS, y_neL, y_neT, y_lt, y_le, y_gt, y_ge, y_isN, y_notN, y_nNone, y_nInt, y_nStr, y_nTup, y_nLst, y_lenL, y_lenT, y_lenS, y_abs, y_max, y_min, y_int, y_intB, y_tupL, y_tupT, y_lstL, y_lstT, y_repr, y_neg, y_ixL, y_ixT, y_cutL, y_cutT, y_rev, y_starT, y_starL, y_starKT, y_starKL, y_itT, y_itKT, y_plain, y_itS, y_itKS, y_var, y_own, y_mv, y_seen, y_seenL, y_fetS, y_sl, y_tm0, y_tmS, y_tmI, y_tmT, y_tmX, y_tmN, y_tn0, y_tnC, y_mapS, y_io0, y_ioV, y_ioB, io_ex, y_nx, y_rt, y_fit0, y_fitT, y_fitN, y_fitX, y_fitS, y_setE0, y_setE1, y_pl, y_un, y_put, y_pop1, List.getElem?_cons_zero, List.getElem?_cons_succ, List.set_cons_zero, List.set_cons_succ, Option.some.injEq, PyData.int.injEq, PyData.bool.injEq, PyData.tuple.injEq, PyData.list.injEq, Prod.mk.injEq, Md.own.injEq, exists_eq_left', exists_eq_left, exists_eq', exists_eq, true_and, and_true, and_self, List.length_cons, List.length_nil, wipeE, restE, decide_eq_true_eq, Bool.not_eq_true', decide_eq_false_iff_not, Nat.reduceAdd, Nat.reduceLT, Nat.reduceLeDiff, Nat.zero_le, Nat.le_refl, waOf, List.map_cons, List.map_nil, Nat.zero_add, List.nil_append, Nat.lt_add_one, y_lfI, y_lfS, y_lfT, y_lfN, y_lfB, or_true, Nat.reduceSub, Nat.add_one_sub_one, List.map_append, List.length_map, exists_and_left, ↓reduceIte, Nat.lt_irrefl, y_po0, y_poS, y_poN, y_ou0, y_ouI, y_ouV, y_ouB, Bool.true_eq_false, Bool.false_eq_true, reduceCtorEq, a_nil, a_cons, a_vt, a_vs, a_is, a_bs, a_bt, a_v0, a_vl, a_vi, a_i0, a_b0, a_bl, y_bind, ok_0, ok_1, ok_2, ok_3, ok_4, ok_5, ok_6, ok_i1, ok_i2, ok_i3, ok_i4, ok_i5, ok_i6, Option.getD_some, Option.getD_none, y_appB, at_0, at_1, at_2, at_3, y_chL, y_chT, not_true_eq_false, not_false_eq_true, true_or, y_pop0])
local macro_rules | `(tactic| walk_at "z6") => `(tactic| simp only [turnW, x_wC, x_wEx, x_wNil, x_wCons, x_wOp, x_wT, x_wAndT, x_wOrT, x_wNotT, x_wIte, x_wAndV, x_wOrV, x_wNotV, x_wChain, x_wTru, x_wFz, x_wTup, x_wLst, x_wStar, x_wP0, x_wP1, x_wCut, x_wNext, x_wBrk, x_wCnt, x_wNever, x_wSeq, x_wNm, y_gn, y_gc, y_tp, x_wNmG, x_wAsg, x_wExpr, x_wRet, x_wRetN, x_wIf, x_wFor, x_wComp, x_wYes, x_wiSeq, x_wiEnum, x_wiRange1, x_wiRange2, y_par, y_al0, y_alC, y_app, x_wDisp, x_wDNew, x_wDNewT, x_wCall, x_wiZip, x_tmp, x_fs0, x_fs1, y_add, y_addS, y_addL, y_addT, y_sub, y_mul, y_rep, y_div, y_mod, y_pow, y_eq, y_eqS, y_eqL, y_eqT, y_ne, y_neS, y_neL, y_neT, y_lt, y_le, y_gt, y_ge, y_isN, y_notN, y_nNone, y_nInt, y_nStr, y_nTup, y_nLst, y_lenL, y_lenT, y_lenS, y_abs, y_max, y_min, y_int, y_intB, y_tupL, y_tupT, y_lstL, y_lstT, y_repr, y_neg, y_ixL, y_ixT, y_cutL, y_cutT, y_rev, y_starT, y_starL, y_starKT, y_starKL, y_itT, y_itKT, y_plain, y_itS, y_itKS, y_var, y_own, y_mv, y_seen, y_seenL, y_fetS, y_sl, y_tm0, y_tmS, y_tmI, y_tmT, y_tmX, y_tmN, y_tn0, y_tnC, y_mapS, y_io0, y_ioV, y_ioB, io_ex, y_nx, y_rt, y_fit0, y_fitT, y_fitN, y_fitX, y_fitS, y_setE0, y_setE1, y_pl, y_un, y_put, y_pop1, List.getElem?_cons_zero, List.getElem?_cons_succ, List.set_cons_zero, List.set_cons_succ, Option.some.injEq, PyData.int.injEq, PyData.bool.injEq, PyData.tuple.injEq, PyData.list.injEq, Prod.mk.injEq, Md.own.injEq, exists_eq_left', exists_eq_left, exists_eq', exists_eq, true_and, and_true, and_self, List.length_cons, List.length_nil, wipeE, restE, decide_eq_true_eq, Bool.not_eq_true', decide_eq_false_iff_not, Nat.reduceAdd, Nat.reduceLT, Nat.reduceLeDiff, Nat.zero_le, Nat.le_refl, waOf, List.map_cons, List.map_nil, Nat.zero_add, List.nil_append, Nat.lt_add_one, y_lfI, y_lfS, y_lfT, y_lfN, y_lfB, or_true, Nat.reduceSub, Nat.add_one_sub_one, List.map_append, List.length_map, exists_and_left, ↓reduceIte, Nat.lt_irrefl, Nat.reduceLT, y_po0, y_poS, y_poN, y_ou0, y_ouI, y_ouV, y_ouB, Bool.true_eq_false, Bool.false_eq_true, reduceCtorEq, a_nil, a_cons, a_vt, a_vs, a_is, a_bs, a_bt, a_v0, a_vl, a_vi, a_i0, a_b0, a_bl, y_bind, ok_0, ok_1, ok_2, ok_3, ok_4, ok_5, ok_6, ok_i1, ok_i2, ok_i3, ok_i4, ok_i5, ok_i6, Option.getD_some, Option.getD_none, y_appB, at_0, at_1, at_2, at_3, y_chL, y_chT, not_true_eq_false, not_false_eq_true, true_or, y_pop0])
local macro_rules | `(tactic| walk_at "z7") => `(tactic| simp only [x_wC, x_wEx, x_wNil, x_wCons, x_wOp, x_wT, x_wAndT, x_wOrT, x_wNotT, x_wIte, x_wAndV, x_wOrV, x_wNotV, x_wChain, x_wTru, x_wFz, x_wTup, x_wLst, x_wStar, x_wP0, x_wP1, x_wCut, x_wNext, x_wBrk, x_wCnt, x_wNever, x_wSeq, x_wNm, y_gn, y_gc, y_tp, x_wNmG, x_wAsg, x_wExpr, x_wRet, x_wRetN, x_wIf, x_wFor, x_wComp, x_wYes, x_wiSeq, x_wiEnum, x_wiRange1, x_wiRange2, y_par, y_al0, y_alC, y_app, x_wDisp, x_wDNew, x_wDNewT, x_wCall, x_wiZip, x_tmp, x_fs0, x_fs1, y_add, y_addS, y_addL, y_addT, y_sub, y_mul, y_rep, y_div, y_mod, y_pow, y_eq, y_eqS, y_eqL, y_eqT, y_ne, y_neS, y_neL, y_neT, y_lt, y_le, y_gt, y_ge, y_isN, y_notN, y_nNone, y_nInt, y_nStr, y_nTup, y_nLst, y_lenL, y_lenT, y_lenS, y_abs, y_max, y_min, y_int, y_intB, y_tupL, y_tupT, y_lstL, y_lstT, y_repr, y_neg, y_ixL, y_ixT, y_cutL, y_cutT, y_rev, y_starT, y_starL, y_starKT, y_starKL, y_itT, y_itKT, y_plain, y_itS, y_itKS, y_var, y_own, y_mv, y_seen, y_seenL, y_fetS, y_sl, y_tm0, y_tmS, y_tmI, y_tmT, y_tmX, y_tmN, y_tn0, y_tnC, y_mapS, y_io0, y_ioV, y_ioB, io_ex, y_nx, y_rt, y_fit0, y_fitT, y_fitN, y_fitX, y_fitS, y_setE0, y_setE1, y_pl, y_un, y_put, y_pop1, List.getElem?_cons_zero, List.getElem?_cons_succ, List.set_cons_zero, List.set_cons_succ, Option.some.injEq, PyData.int.injEq, PyData.bool.injEq, PyData.tuple.injEq, PyData.list.injEq, Prod.mk.injEq, Md.own.injEq, exists_eq_left', exists_eq_left, exists_eq', exists_eq, true_and, and_true, and_self, List.length_cons, List.length_nil, wipeE, restE, decide_eq_true_eq, Bool.not_eq_true', decide_eq_false_iff_not, Nat.reduceAdd, Nat.reduceLT, Nat.reduceLeDiff, Nat.zero_le, Nat.le_refl, waOf, List.map_cons, List.map_nil, Nat.zero_add, List.nil_append, Nat.lt_add_one, y_lfI, y_lfS, y_lfT, y_lfN, y_lfB, or_true, Nat.reduceSub, Nat.add_one_sub_one, List.map_append, List.length_map, exists_and_left, ↓reduceIte, Nat.lt_irrefl, y_po0, y_poS, y_poN, y_ou0, y_ouI, y_ouV, y_ouB, Bool.true_eq_false, Bool.false_eq_true, reduceCtorEq, a_nil, a_cons, a_vt, a_vs, a_is, a_bs, a_bt, a_v0, a_vl, a_vi, a_i0, a_b0, a_bl, y_bind, ok_0, ok_1, ok_2, ok_3, ok_4, ok_5, ok_6, ok_i1, ok_i2, ok_i3, ok_i4, ok_i5, ok_i6, Option.getD_some, Option.getD_none, y_appB, at_0, at_1, at_2, at_3, y_chL, y_chT, not_true_eq_false, not_false_eq_true, true_or, y_pop0, ← List.map_reverse, List.zip_cons_cons, List.zip_nil_right])
theorem law_source (ds : List D) (R : Nat → D → List D → Prop) (h : F_source.sp ds R) : q_source (entE [.val] ds ++ List.replicate 2 none) (endK [.val] R) := by
  obtain ⟨ns, rfl, hn, hb, hR⟩ := h
  unfold q_source
  show (wSeq _ _) [some (.own 0, .list (ns.map .int)), none, none] _
  refine seq_mid (fun e => e = [some (.own 0, .list (ns.map .int)), some (.own 0, .int 11), none]) (fun V hV => ?_) ?_
  · walk_at "z5"
    exact hV _ rfl
  rintro e rfl
  refine seq_mid (fun e => ∃ m x, e = [some (.own 0, .list (ns.map .int)), some (.own 0, .int m), x] ∧ 0 ≤ m ∧ m < 2147483648) (fun V hV => ?_) ?_
  · walk_at "z5"
    refine for_inv (fun _ e => ∃ m x, e = [some (.own 0, .list (ns.map .int)), some (.own 0, .int m), x] ∧ 0 ≤ m ∧ m < 2147483648) ⟨11, none, rfl, by decide, by decide⟩ ?_ hV
    rintro done d rest e hd ⟨m, x, rfl, h0, h1⟩ W hW
    obtain ⟨z, hz, rfl⟩ := List.mem_map.mp (show d ∈ ns.map PyData.int by rw [hd]; simp)
    unfold q_source_1
    walk_at "z5"
    refine ⟨mulB_small ?_ (by decide), ?_, by decide, hW _ ⟨_, _, rfl, Int.emod_nonneg _ (by decide), Int.lt_trans (Int.emod_lt_of_pos _ (by decide)) (by decide)⟩⟩
    · have : m.natAbs < 2 ^ 32 := by omega
      exact Nat.lt_of_lt_of_le this (Nat.pow_le_pow_right (by decide) (by decide))
    · have q := hb z hz
      show z.natAbs.log2 + (31 : Int).natAbs.log2 < 134000000
      have e : (31 : Int).natAbs.log2 = 4 := by decide
      have : z.natAbs.log2 ≤ Builtin.Int.intBits z := by
        unfold Builtin.Int.intBits
        split
        · rename_i hz
          have : z = 0 := by simpa using hz
          subst this
          decide
        · omega
      omega
  · rintro e ⟨m, x, rfl, h0, h1⟩
    walk_at "z5"
    refine comp_map (fun z : Int => PyData.int (z.natAbs : Int)) (fun e => e = [some (.own 0, .list (ns.map .int)), some (.own 0, .int m), none]) rfl ?_ ?_
    · rintro z hz e rfl V hV
      walk_at "z6"
      exact hV _ rfl
    · rintro e rfl
      have er : (ns.map fun z => PyData.int (z.natAbs : Int)) = (ns.map fun z => (z.natAbs : Int)).map PyData.int := by
        rw [List.map_map]; rfl
      rw [er]
      walk_at "z7"
      refine hR _ ⟨_, 1, m, 0, rfl, fun x hx => ?_, by decide, h0, h1, by decide, by decide⟩
      obtain ⟨z, _, rfl⟩ := List.mem_map.mp hx
      omega
end Sq
/-! Sq24: how long the texts of data are -/
namespace Sq
open PySem PySem.Spec PyProof.Rows L2
/-- d has depth n at most, weight w at most, ints below 2^63, plain texts -/
structure Sz (n w : Nat) (d : D) : Prop where
  lay : d.canLay0 = true
  show_ : d.showable = true
  short : d.leavesShort 22 = true
  dep : d.depth ≤ n
  wt : d.weight ≤ w
theorem log2_le {a k : Nat} (h : a < 2 ^ k) (hk : 0 < k) : a.log2 < k := by
  by_cases z : a = 0
  · subst z; simpa using hk
  · exact (Nat.log2_lt z).mpr h
theorem Sz.mono {n w n' w' : Nat} {d : D} (h : Sz n w d) (hn : n ≤ n') (hw : w ≤ w') : Sz n' w' d := ⟨h.lay, h.show_, h.short, Nat.le_trans h.dep hn, Nat.le_trans h.wt hw⟩
theorem Sz.int {i : Int} (h : i.natAbs < 10 ^ 18) : Sz 0 63 (.int i) := by
  have l : i.natAbs.log2 < 60 := log2_le (Nat.lt_of_lt_of_le h (by decide)) (by decide)
  refine ⟨rfl, ?_, ?_, Nat.le_refl _, ?_⟩
  · show decide (i.natAbs.log2 < 1920) = true
    exact decide_eq_true (by omega)
  · have e := int_text_length_le10 (k := 19) (by decide) (Nat.lt_of_lt_of_le h (by decide))
    show decide ((Str.ofString (toString i)).length ≤ 22) = true
    refine decide_eq_true ?_
    rw [PySem.ofString_length]
    omega
  · simp only [PyData.weight]
    split <;> omega
theorem shaped_ints (l : List Int) : SeqAt.shaped (.list (l.map .int)) = true := by
  have h1 : ∀ l : List Int, PyData.canLayAll0 (l.map PyData.int) = true := fun l => by
    induction l with
    | nil => rfl
    | cons a r ih => simp [PyData.canLayAll0, PyData.canLay0, ih]
  have h2 : ∀ l : List Int, PyData.depthAll (l.map PyData.int) = 0 := fun l => by
    induction l with
    | nil => rfl
    | cons a r ih => simp [PyData.depthAll, PyData.depth, ih]
  unfold SeqAt.shaped
  simp [PyData.canLay0, PyData.depth, h1, h2]
theorem at_last {α : Type} (zs : List α) (z : α) : atI (zs ++ [z]) (-1) = some z := by
  unfold atI ixN
  rw [if_neg (by decide), if_pos (by rw [List.length_append, List.length_singleton]; omega)]
  show (zs ++ [z])[(-1 + ((zs ++ [z]).length : Int)).toNat]? = some z
  have e : (-1 + ((zs ++ [z]).length : Int)).toNat = zs.length := by rw [List.length_append, List.length_singleton]; omega
  rw [e]
  simp
theorem cut_take {α : Type} (zs : List α) {t : Int} (h : 0 ≤ t) : cut zs none (some t) = zs.take t.toNat := by
  have e : HT.sIx zs.length zs.length (some t) = min t.toNat zs.length := by
    have q := HT.sIx_nat zs.length zs.length t.toNat
    rwa [Int.toNat_of_nonneg h] at q
  unfold cut
  rw [e, HT.sIx_none, List.drop_zero, Nat.sub_zero]
  by_cases hl : t.toNat ≤ zs.length
  · rw [Nat.min_eq_left hl]
  · rw [Nat.min_eq_right (by omega), List.take_length, List.take_of_length_le (by omega)]
theorem Sz.non : Sz 0 63 .none := ⟨rfl, rfl, rfl, Nat.le_refl _, by decide⟩
theorem Sz.bool (b : Bool) : Sz 0 63 (.bool b) := ⟨rfl, rfl, rfl, Nat.le_refl _, by show 0 ≤ 63; decide⟩
theorem Sz.row {n w : Nat} : ∀ {xs : List D}, (∀ x ∈ xs, Sz n w x) → PyData.canLayAll0 xs = true ∧ PyData.showableAll xs = true ∧ PyData.leavesShortAll 22 xs = true ∧ PyData.depthAll xs ≤ n ∧ PyData.weightAll xs ≤ xs.length * (w + 1)
  | [], _ => ⟨rfl, rfl, rfl, Nat.zero_le _, Nat.zero_le _⟩
  | x :: xs, h => by
    obtain ⟨a, b, c, d, e⟩ := Sz.row fun y hy => h y (List.mem_cons_of_mem _ hy)
    have hx := h x List.mem_cons_self
    refine ⟨by simp [PyData.canLayAll0, hx.lay, a], by simp [PyData.showableAll, hx.show_, b], by simp [PyData.leavesShortAll, hx.short, c], ?_, ?_⟩
    · simp only [PyData.depthAll]; have := hx.dep; omega
    · simp only [PyData.weightAll, List.length_cons]
      have := hx.wt
      rw [Nat.add_mul]
      omega
theorem Sz.tup {n w : Nat} {xs : List D} (h : ∀ x ∈ xs, Sz n w x) : Sz (n + 1) (xs.length * (w + 1)) (.tuple xs) := by
  obtain ⟨a, b, c, d, e⟩ := Sz.row h
  exact ⟨by simpa [PyData.canLay0] using a, by simpa [PyData.showable] using b, by simpa [PyData.leavesShort] using c, by simp only [PyData.depth]; omega, by simpa [PyData.weight] using e⟩
theorem Sz.lst {n w : Nat} {xs : List D} (h : ∀ x ∈ xs, Sz n w x) : Sz (n + 1) (xs.length * (w + 1)) (.list xs) := by
  obtain ⟨a, b, c, d, e⟩ := Sz.row h
  exact ⟨by simpa [PyData.canLay0] using a, by simpa [PyData.showable] using b, by simpa [PyData.leavesShort] using c, by simp only [PyData.depth]; omega, by simpa [PyData.weight] using e⟩
theorem Sz.ok {n w : Nat} {d : D} (h : Sz n w d) (hn : n ≤ 64) (hw : w ≤ 600000) : reprOk d := by
  refine ⟨h.lay, h.show_, Nat.le_trans h.dep hn, ?_⟩
  have q := PyData.shown_le 22 (by decide) d h.short
  have := h.wt
  rw [sizeLine_eq]
  omega
theorem Sz.shaped {n w : Nat} {d : D} (h : Sz n w d) (hn : n ≤ 64) : SeqAt.shaped d = true := by
  unfold SeqAt.shaped
  rw [Bool.and_eq_true]
  exact ⟨h.lay, decide_eq_true (Nat.le_trans h.dep hn)⟩
end Sq
/-! Sq25: sums, the greatest, the least; extend -/
namespace Sq
open PySem PySem.Spec PyProof.Rows L2
def oSum : OW
  | [(n, .list xs)], Q => n ≤ 1 ∧ ∃ ns, asInts xs = some ns ∧ Q 0 (.int ns.sum)
  | [(_, .tuple xs)], Q => ∃ ns, asInts xs = some ns ∧ Q 0 (.int ns.sum)
  | _, _ => False
section
variable {X : Cx}
def rSumT (K : Frag) : List V → Hp → VK → Prop := fun vs H Q => ∃ (a : Addr) (ns : List Int), vs = [V.ref a] ∧ SqT K H a (ns.map V.int) ∧ Q (.int ns.sum) H
theorem cr_sumT (hc : X.calm = true) : CallR X (.builtin "sum") (rSumT X.K) := by
  intro pins s σ H vs us Q I r h
  obtain ⟨a, ns, rfl, hs, q⟩ := h
  obtain ⟨its, rv, hl, _⟩ := I.tuple hs
  rw [Vals.ref1 r]
  obtain ⟨xs, e⟩ := rv.ints.allInts.items
  have hn : numsOf (intItems xs).toList = ns := by rw [← e]; exact rv.ints.numsOf
  rw [nums_intItems] at hn
  have hl' : s.heap.IsTuple a (intItems xs) := by rw [← e]; exact hl
  refine PySem.W.ktm_sumG (I.ok.hd hc) hl' fun h' tk t' hk => ?_
  rw [preSum_eq, List.take_of_length_le (by simp), hn]
  exact ⟨.int _, H, I.kept hk, ⟨_, rfl⟩, q⟩
theorem s_sum (hc : X.calm = true) : CallS X (.builtin "sum") oSum := by
  refine ⟨_, CallR.or (cr_sum hc) (cr_sumT hc), fun G H xs vs P Q g r h q => ?_⟩
  unfold oSum at h
  split at h
  · obtain ⟨v, rfl, x⟩ := r.one
    obtain ⟨p, ws, rfl, h1, z, rs⟩ := x.lst g h.1
    obtain ⟨ns, e, h⟩ := h.2
    rw [asInts_eq e] at rs
    have := rs.ints
    subst this
    exact .inl ⟨p, ns, rfl, h1, q _ _ _ _ h (.same (.int _))⟩
  · obtain ⟨v, rfl, x⟩ := r.one
    obtain ⟨p, ws, rfl, h1, z, rs⟩ := x.tup
    obtain ⟨ns, e, h⟩ := h
    rw [asInts_eq e] at rs
    have := rs.ints
    subst this
    exact .inr ⟨p, ns, rfl, h1, q _ _ _ _ h (.same (.int _))⟩
  · exact h.elim
def oMax1 : OW
  | [(n, .list xs)], Q => n ≤ 1 ∧ ∃ ns, asInts xs = some ns ∧ 0 < ns.length ∧ ∀ m, m ∈ ns → (∀ y, y ∈ ns → y ≤ m) → Q 0 (.int m)
  | _, _ => False
theorem s_max1 (hc : X.calm = true) : CallS X (.builtin "max") oMax1 := by
  refine ⟨_, cr_max hc, fun G H xs vs P Q g r h q => ?_⟩
  unfold oMax1 at h
  split at h
  · obtain ⟨v, rfl, x⟩ := r.one
    obtain ⟨p, ws, rfl, h1, z, rs⟩ := x.lst g h.1
    obtain ⟨ns, e, h0, h⟩ := h.2
    rw [asInts_eq e] at rs
    have := rs.ints
    subst this
    exact ⟨p, ns, rfl, h1, h0, fun m hm hy => q _ _ _ _ (h m hm hy) (.same (.int _))⟩
  · exact h.elim
end
theorem boot_sum' : bootBuiltins "sum" = some (.builtin "sum") := by decide +kernel
section
variable {n : Nat} {ns : List Int} {Q : Nat → D → Prop}
theorem y_sumL : oSum [(n, .list (ns.map .int))] Q = (n ≤ 1 ∧ Q 0 (.int ns.sum)) := by
  show (n ≤ 1 ∧ ∃ ms, asInts (ns.map .int) = some ms ∧ Q 0 (.int ms.sum)) = _
  simp [asInts_map]
theorem y_sumT : oSum [(n, .tuple (ns.map .int))] Q = Q 0 (.int ns.sum) := by
  show (∃ ms, asInts (ns.map .int) = some ms ∧ Q 0 (.int ms.sum)) = _
  simp [asInts_map]
theorem y_max1 : oMax1 [(n, .list (ns.map .int))] Q = (n ≤ 1 ∧ 0 < ns.length ∧ ∀ m, m ∈ ns → (∀ y, y ∈ ns → y ≤ m) → Q 0 (.int m)) := by
  show (n ≤ 1 ∧ ∃ ms, asInts (ns.map .int) = some ms ∧ 0 < ms.length ∧ ∀ m, m ∈ ms → (∀ y, y ∈ ms → y ≤ m) → Q 0 (.int m)) = _
  simp only [asInts_map, Option.some.injEq, exists_eq_left']
end
theorem loop_map {α : Type} {p : α → D} {g : WG} {b : WS} {P : K4} (I : List α → En → Prop) {all : List α} : ∀ {ds done : List α} {e : En}, all = done ++ ds → I done e →
    (∀ done d rest e, all = done ++ d :: rest → I done e → ∀ N : En → Prop, (∀ e', I (done ++ [d]) e' → N e') → g 0 (p d) e fun e1 => b e1 { P with nx := N, ct := N, bk := P.nx }) → (∀ e, I all e → P.nx e) → loopW g b (ds.map p) e P
  | [], done, e, a, i, _, q => q e (by rw [a, List.append_nil]; exact i)
  | d :: ds, done, e, a, i, h, q => h done d ds e a i (fun e2 => loopW g b (ds.map p) e2 P) fun e' i' => loop_map I (done := done ++ [d]) (by simpa using a) i' h q
theorem for_map {α : Type} {p : α → D} {g : WG} {b : WS} {P : K4} {xs : List α} {e : En} (I : List α → En → Prop) (h0 : I [] e)
    (h : ∀ done d rest e, xs = done ++ d :: rest → I done e → ∀ N : En → Prop, (∀ e', I (done ++ [d]) e' → N e') → g 0 (p d) e fun e1 => b e1 { P with nx := N, ct := N, bk := P.nx }) (q : ∀ e, I xs e → P.nx e) : loopW g b (xs.map p) e P :=
  loop_map I (done := []) rfl h0 h q
end Sq
/-! Sq26: drawn need rows, gaps of a layer -/
namespace Sq
open PySem PySem.Spec PyProof.Rows L2
/-! ### the plain law -/
def onI (row : List Int) (k : Int) : List Int := (List.range row.length).filterMap fun t => if k ≤ row.getD t 0 then some (t : Int) else none
def pairs (on : List Int) : List (Int × Int) := (on.zip on.tail).filterMap fun p => if p.1 + 1 < p.2 then some (p.1 + 1, p.2 - p.1 - 1) else none
def gapD (p : Int × Int) : D := .tuple [.int p.1, .int p.2]
def gapsD (row : List Int) (k : Int) : D := .list ((pairs (onI row k)).map gapD)
theorem fm_congr {α β : Type} {f g : α → Option β} : ∀ {l : List α}, (∀ x ∈ l, f x = g x) → l.filterMap f = l.filterMap g
  | [], _ => rfl
  | x :: r, h => by
    rw [List.filterMap_cons, List.filterMap_cons, h x List.mem_cons_self, fm_congr fun y hy => h y (List.mem_cons_of_mem _ hy)]
theorem onI_snoc (row : List Int) (x k : Int) : onI (row ++ [x]) k = onI row k ++ (if k ≤ x then [(row.length : Int)] else []) := by
  unfold onI
  rw [List.length_append, List.length_singleton, List.range_succ, List.filterMap_append]
  congr 1
  · refine fm_congr fun t ht => ?_
    have ht := List.mem_range.mp ht
    have : (row ++ [x]).getD t 0 = row.getD t 0 := by simp [List.getD, List.getElem?_append_left ht]
    rw [this]
  · have : (row ++ [x]).getD row.length 0 = x := by simp [List.getD]
    simp only [List.filterMap_cons, List.filterMap_nil, this]
    split <;> simp_all
theorem pairs_snoc : ∀ (on : List Int) (t : Int), pairs (on ++ [t]) = pairs on ++ (match on.getLast? with
    | some a => if a + 1 < t then [(a + 1, t - a - 1)] else []
    | none => [])
  | [], t => by simp [pairs]
  | [a], t => by
    simp only [pairs, List.cons_append, List.nil_append, List.tail_cons, List.zip_cons_cons, List.zip_nil_right, List.filterMap_cons, List.filterMap_nil, List.getLast?_singleton]
    split <;> simp_all
  | a :: b :: r, t => by
    have ih := pairs_snoc (b :: r) t
    have e : ∀ l : List Int, pairs (a :: b :: l) = (if a + 1 < b then [(a + 1, b - a - 1)] else []) ++ pairs (b :: l) := fun l => by
      simp only [pairs, List.tail_cons, List.zip_cons_cons, List.filterMap_cons]
      split <;> simp_all
    rw [List.cons_append, List.cons_append, e, e, ← List.cons_append, ih, List.append_assoc, List.getLast?_cons_cons]
theorem onI_le (row : List Int) (k : Int) : (onI row k).length ≤ row.length := by
  unfold onI
  exact Nat.le_trans (List.length_filterMap_le _ _) (by simp)
theorem pairs_le (on : List Int) : (pairs on).length ≤ on.length := by
  unfold pairs
  exact Nat.le_trans (List.length_filterMap_le _ _) (by rw [List.length_zip]; omega)
theorem onI_mem {row : List Int} {k x : Int} (h : x ∈ onI row k) : 0 ≤ x ∧ x < row.length := by
  unfold onI at h
  obtain ⟨t, ht, e⟩ := List.mem_filterMap.mp h
  have ht := List.mem_range.mp ht
  split at e
  · cases e; omega
  · cases e
theorem pairs_mem {on : List Int} {n : Int} (h : ∀ x ∈ on, 0 ≤ x ∧ x < n) {p : Int × Int} (hp : p ∈ pairs on) : 0 ≤ p.1 ∧ p.1 ≤ n ∧ 0 ≤ p.2 ∧ p.2 ≤ n := by
  unfold pairs at hp
  obtain ⟨q, hq, e⟩ := List.mem_filterMap.mp hp
  obtain ⟨q1, q2⟩ := q
  have h1 := h _ (List.of_mem_zip hq).1
  have h2 := h _ (List.mem_of_mem_tail (List.of_mem_zip hq).2)
  simp only at e h1 h2
  split at e
  · cases e; simp only; omega
  · cases e
/-! ### what the defs say -/
def F_draw : FS := ⟨[.io 2, .val, .val], fun ds R => ∃ N src ticks most, ds = [src, .int ticks, .int most] ∧ Src N src ∧ N ≤ 2 ^ 50 ∧ 0 ≤ ticks ∧ ticks ≤ 200 ∧ 1 ≤ most ∧ most ≤ 1000000000 ∧
  ∀ (ns : List Int) (src' : D), ns.length = ticks.toNat → (∀ x ∈ ns, 0 ≤ x ∧ x ≤ most) → Src (N + 1000) src' → R 0 (.tuple (ns.map .int)) [src']⟩
def F_lgaps : FS := ⟨[.val, .val], fun ds R => ∃ row k, ds = [.tuple (row.map .int), .int k] ∧ row.length ≤ 1000 ∧ R 0 (gapsD row k) []⟩
theorem lgaps_ms : F_lgaps.ms = [.val, .val] := rfl
theorem draw_ms : F_draw.ms = [.io 2, .val, .val] := rfl
section
variable {xs : List D} {k : Int} {R : Nat → D → List D → Prop}
theorem lgaps_sp : F_lgaps.sp [.tuple xs, .int k] R = ∃ row : List Int, xs = row.map .int ∧ row.length ≤ 1000 ∧ R 0 (gapsD row k) [] := by
  apply propext
  constructor
  · rintro ⟨row, k', e, h⟩
    cases e
    exact ⟨row, rfl, h⟩
  · rintro ⟨row, rfl, h⟩
    exact ⟨row, k, rfl, h⟩
theorem draw_sp {src : D} {ticks most : Int} : F_draw.sp [src, .int ticks, .int most] R = ∃ N, Src N src ∧ N ≤ 2 ^ 50 ∧ 0 ≤ ticks ∧ ticks ≤ 200 ∧ 1 ≤ most ∧ most ≤ 1000000000 ∧
    ∀ (ns : List Int) (src' : D), ns.length = ticks.toNat → (∀ x ∈ ns, 0 ≤ x ∧ x ≤ most) → Src (N + 1000) src' → R 0 (.tuple (ns.map .int)) [src'] := by
  apply propext
  constructor
  · rintro ⟨N, _, _, _, e, h⟩
    cases e
    exact ⟨N, h⟩
  · rintro ⟨N, h⟩
    exact ⟨N, _, _, _, rfl, h⟩
end
def q_draw_1 : WS := (wSeq (wIf (wT (wOp oEq (wCons (wSl 3) (wCons (wEx (wC (.int 0))) wNil)))) (wSeq (wExpr (wApp 4 (wFz (wCall F_pick (wCons (wSl 0) (wCons (wEx (wOp oAdd (wCons (wSl 2) (wCons (wEx (wC (.int 1))) wNil)))) wNil)))))) wNext) (wSeq (wIf (wT (wOp oEq (wCons (wSl 3) (wCons (wEx (wC (.int 1))) wNil)))) (wSeq (wAsg (wOp oAdd (wCons (wEx (wOp oAdd (wCons (wSl 4) (wCons (wEx (wOp oMul (wCons (wEx (wLst 0 (wCons (wEx (wOp oAdd (wCons (wEx (wC (.int 1))) (wCons (wEx (wCall F_pick (wCons (wSl 0) (wCons (wSl 2) wNil)))) wNil)))) wNil))) (wCons (wEx (wOp oAdd (wCons (wEx (wC (.int 1))) (wCons (wEx (wCall F_pick (wCons (wSl 0) (wCons (wEx (wC (.int 3))) wNil)))) wNil)))) wNil)))) wNil)))) (wCons (wEx (wOp oMul (wCons (wEx (wLst 0 (wCons (wEx (wC (.int 0))) wNil))) (wCons (wEx (wCall F_pick (wCons (wSl 0) (wCons (wEx (wC (.int 9))) wNil)))) wNil)))) wNil))) (wNmG 4)) wNext) (wSeq (wIf (wT (wOp oEq (wCons (wSl 3) (wCons (wEx (wC (.int 2))) wNil)))) (wSeq (wAsg (wFz (wIte (wT (wOp oNe (wCons (wSl 4) (wCons (wEx (wLst 0 wNil)) wNil)))) (wOp oIx (wCons (wSl 4) (wCons (wEx (wOp oNeg (wCons (wEx (wC (.int 1))) wNil))) wNil))) (wCall F_pick (wCons (wSl 0) (wCons (wEx (wOp oAdd (wCons (wSl 2) (wCons (wEx (wC (.int 1))) wNil)))) wNil))))) (wNmG 5)) (wSeq (wExpr (wApp 4 (wOp oMin2 (wCons (wSl 2) (wCons (wEx (wOp oMax2 (wCons (wEx (wC (.int 0))) (wCons (wEx (wOp oSub (wCons (wEx (wOp oAdd (wCons (wSl 5) (wCons (wEx (wCall F_pick (wCons (wSl 0) (wCons (wEx (wC (.int 5))) wNil)))) wNil)))) (wCons (wEx (wC (.int 2))) wNil)))) wNil)))) wNil))))) wNext)) (wSeq (wAsg (wFz (wLst 0 (wCons (wEx (wC (.int 0))) (wCons (wEx (wC (.int 0))) (wCons (wEx (wVar 2)) (wCons (wEx (wFz (wCall F_pick (wCons (wSl 0) (wCons (wEx (wOp oAdd (wCons (wSl 2) (wCons (wEx (wC (.int 1))) wNil)))) wNil))))) wNil)))))) (wNmG 6)) (wSeq (wAsg (wOp oAdd (wCons (wSl 4) (wCons (wEx (wOp oMul (wCons (wEx (wLst 0 (wCons (wEx (wFz (wCall F_of (wCons (wSl 0) (wCons (wSl 6) wNil))))) wNil))) (wCons (wEx (wOp oAdd (wCons (wEx (wC (.int 1))) (wCons (wEx (wCall F_pick (wCons (wSl 0) (wCons (wEx (wC (.int 4))) wNil)))) wNil)))) wNil)))) wNil))) (wNmG 4)) wNext))) wNext)) wNext)) wNext)
def q_draw : WS := (wSeq (wPar [3, 4] (wCons (wEx (wFz (wCall F_pick (wCons (wSl 0) (wCons (wEx (wC (.int 4))) wNil))))) (wCons (wEx (wLst 0 wNil)) wNil))) (wSeq (wWhile (wT (wOp oLt (wCons (wEx (wOp oLen (wCons (wSl 4) wNil))) (wCons (wSl 1) wNil)))) q_draw_1) (wSeq (wRet (wOp oTuple (wCons (wEx (wCut (wSl 4) wP0 (wP1 (wVar 1)))) wNil))) wNext)))
def q_gaps : WS := (wSeq (wAsg (wFz (wComp (wiRange1 (wOp oLen (wCons (wSl 0) wNil))) (wNmG 3) (wT (wOp oGe (wCons (wEx (wOp oIx (wCons (wSl 0) (wCons (wSl 3) wNil)))) (wCons (wSl 1) wNil)))) (wVar 3) [3] 0)) (wNmG 2)) (wSeq (wRet (wFz (wComp (wiZip (wSl 2) (wEx (wCut (wSl 2) (wP1 (wC (.int 1))) wP0))) (wTp 2 (wGc (wNmG 4) (wGc (wNmG 5) wGn))) (wT (wOp oGt (wCons (wSl 5) (wCons (wEx (wOp oAdd (wCons (wSl 4) (wCons (wEx (wC (.int 1))) wNil)))) wNil)))) (wTup (wCons (wEx (wOp oAdd (wCons (wSl 4) (wCons (wEx (wC (.int 1))) wNil)))) (wCons (wEx (wOp oSub (wCons (wEx (wOp oSub (wCons (wSl 5) (wCons (wSl 4) wNil)))) (wCons (wEx (wC (.int 1))) wNil)))) wNil))) [4, 5] 0))) wNext))
local macro_rules | `(tactic| walk_at "z5") => `(tactic| simp only [x_wC, x_wEx, x_wNil, x_wCons, x_wOp, x_wT, x_wAndT, x_wOrT, x_wNotT, x_wIte, x_wAndV, x_wOrV, x_wNotV, x_wChain, x_wTru, x_wFz, x_wTup, x_wLst, x_wStar, x_wP0, x_wP1, x_wCut, x_wNext, x_wBrk, x_wCnt, x_wNever, x_wSeq, x_wNm, y_gn, y_gc, y_tp, x_wNmG, x_wAsg, x_wExpr, x_wRet, x_wRetN, x_wIf, x_wFor, x_wComp, x_wYes, x_wiSeq, x_wiEnum, x_wiRange1, x_wiRange2, y_par, y_al0, y_alC, y_app, x_wDisp, x_wDNew, x_wDNewT, x_wCall, x_wiZip, x_tmp, x_fs0, x_fs1, y_add, y_addS, y_addL, y_addT, y_sub, y_mul, y_rep, y_div, y_mod, y_pow, y_eq, y_eqS, y_eqL, y_eqT, y_ne, y_neS, y_neL, y_neT, y_lt, y_le, y_gt, y_ge, y_isN, y_notN, y_nNone, y_nInt, y_nStr, y_nTup, y_nLst, y_lenL, y_lenT, y_lenS, y_abs, y_max, y_min, y_int, y_intB, y_tupL, y_tupT, y_lstL, y_lstT, y_repr, y_neg, y_ixL, y_ixT, y_cutL, y_cutT, y_rev, y_starT, y_starL, y_starKT, y_starKL, y_itT, y_itKT, y_plain, y_itS, y_itKS, y_var, y_own, y_mv, y_seen, y_seenL, y_fetS, y_sl, y_tm0, y_tmS, y_tmI, y_tmT, y_tmX, y_tmN, y_tn0, y_tnC, y_mapS, y_io0, y_ioV, y_ioB, io_ex, y_nx, y_rt, y_fit0, y_fitT, y_fitN, y_fitX, y_fitS, y_setE0, y_setE1, y_pl, y_un, y_put, y_pop1, List.getElem?_cons_zero, List.getElem?_cons_succ, List.set_cons_zero, List.set_cons_succ, Option.some.injEq, PyData.int.injEq, PyData.bool.injEq, PyData.tuple.injEq, PyData.list.injEq, Prod.mk.injEq, Md.own.injEq, exists_eq_left', exists_eq_left, exists_eq', exists_eq, true_and, and_true, and_self, List.length_cons, List.length_nil, wipeE, restE, decide_eq_true_eq, Bool.not_eq_true', decide_eq_false_iff_not, Nat.reduceAdd, Nat.reduceLT, Nat.reduceLeDiff, Nat.zero_le, Nat.le_refl, waOf, List.map_cons, List.map_nil, Nat.zero_add, List.nil_append, Nat.lt_add_one, y_lfI, y_lfS, y_lfT, y_lfN, y_lfB, or_true, Nat.reduceSub, Nat.add_one_sub_one, List.map_append, List.length_map, exists_and_left, ↓reduceIte, Nat.lt_irrefl, y_po0, y_poS, y_poN, y_ou0, y_ouI, y_ouV, y_ouB, Bool.true_eq_false, Bool.false_eq_true, reduceCtorEq, a_nil, a_cons, a_vt, a_vs, a_is, a_bs, a_bt, a_v0, a_vl, a_vi, a_i0, a_b0, a_bl, y_bind, ok_0, ok_1, ok_2, ok_3, ok_4, ok_5, ok_6, ok_i1, ok_i2, ok_i3, ok_i4, ok_i5, ok_i6, Option.getD_some, Option.getD_none, y_appB, at_0, at_1, at_2, at_3, y_chL, y_chT, not_true_eq_false, not_false_eq_true, true_or, y_pop0])
local macro_rules | `(tactic| walk_at "z6") => `(tactic| simp only [turnW, x_wC, x_wEx, x_wNil, x_wCons, x_wOp, x_wT, x_wAndT, x_wOrT, x_wNotT, x_wIte, x_wAndV, x_wOrV, x_wNotV, x_wChain, x_wTru, x_wFz, x_wTup, x_wLst, x_wStar, x_wP0, x_wP1, x_wCut, x_wNext, x_wBrk, x_wCnt, x_wNever, x_wSeq, x_wNm, y_gn, y_gc, y_tp, x_wNmG, x_wAsg, x_wExpr, x_wRet, x_wRetN, x_wIf, x_wFor, x_wComp, x_wYes, x_wiSeq, x_wiEnum, x_wiRange1, x_wiRange2, y_par, y_al0, y_alC, y_app, x_wDisp, x_wDNew, x_wDNewT, x_wCall, x_wiZip, x_tmp, x_fs0, x_fs1, y_add, y_addS, y_addL, y_addT, y_sub, y_mul, y_rep, y_div, y_mod, y_pow, y_eq, y_eqS, y_eqL, y_eqT, y_ne, y_neS, y_neL, y_neT, y_lt, y_le, y_gt, y_ge, y_isN, y_notN, y_nNone, y_nInt, y_nStr, y_nTup, y_nLst, y_lenL, y_lenT, y_lenS, y_abs, y_max, y_min, y_int, y_intB, y_tupL, y_tupT, y_lstL, y_lstT, y_repr, y_neg, y_ixL, y_ixT, y_cutL, y_cutT, y_rev, y_starT, y_starL, y_starKT, y_starKL, y_itT, y_itKT, y_plain, y_itS, y_itKS, y_var, y_own, y_mv, y_seen, y_seenL, y_fetS, y_sl, y_tm0, y_tmS, y_tmI, y_tmT, y_tmX, y_tmN, y_tn0, y_tnC, y_mapS, y_io0, y_ioV, y_ioB, io_ex, y_nx, y_rt, y_fit0, y_fitT, y_fitN, y_fitX, y_fitS, y_setE0, y_setE1, y_pl, y_un, y_put, y_pop1, List.getElem?_cons_zero, List.getElem?_cons_succ, List.set_cons_zero, List.set_cons_succ, Option.some.injEq, PyData.int.injEq, PyData.bool.injEq, PyData.tuple.injEq, PyData.list.injEq, Prod.mk.injEq, Md.own.injEq, exists_eq_left', exists_eq_left, exists_eq', exists_eq, true_and, and_true, and_self, List.length_cons, List.length_nil, wipeE, restE, decide_eq_true_eq, Bool.not_eq_true', decide_eq_false_iff_not, Nat.reduceAdd, Nat.reduceLT, Nat.reduceLeDiff, Nat.zero_le, Nat.le_refl, waOf, List.map_cons, List.map_nil, Nat.zero_add, List.nil_append, Nat.lt_add_one, y_lfI, y_lfS, y_lfT, y_lfN, y_lfB, or_true, Nat.reduceSub, Nat.add_one_sub_one, List.map_append, List.length_map, exists_and_left, ↓reduceIte, Nat.lt_irrefl, Nat.reduceLT, y_po0, y_poS, y_poN, y_ou0, y_ouI, y_ouV, y_ouB, Bool.true_eq_false, Bool.false_eq_true, reduceCtorEq, a_nil, a_cons, a_vt, a_vs, a_is, a_bs, a_bt, a_v0, a_vl, a_vi, a_i0, a_b0, a_bl, y_bind, ok_0, ok_1, ok_2, ok_3, ok_4, ok_5, ok_6, ok_i1, ok_i2, ok_i3, ok_i4, ok_i5, ok_i6, Option.getD_some, Option.getD_none, y_appB, at_0, at_1, at_2, at_3, y_chL, y_chT, not_true_eq_false, not_false_eq_true, true_or, y_pop0])
theorem law_gaps (ds : List D) (R : Nat → D → List D → Prop) (h : F_lgaps.sp ds R) : q_gaps (entE [.val, .val] ds ++ List.replicate 4 none) (endK [.val, .val] R) := by
  obtain ⟨row, k, rfl, hl, hR⟩ := h
  unfold q_gaps
  show (wSeq _ _) [some (.own 0, .tuple (row.map .int)), some (.own 0, .int k), none, none, none, none] _
  refine seq_mid (fun e => e = [some (.own 0, .tuple (row.map .int)), some (.own 0, .int k), some (.own 0, .list ((onI row k).map .int)), none, none, none]) (fun V hV => ?_) ?_
  · walk_at "z5"
    refine ⟨⟨by omega, by omega⟩, by omega, ?_⟩
    refine comp_on (p := fun i : Nat => PyData.int (0 + (i : Int))) (f := fun t => if k ≤ row.getD t 0 then some (.int (t : Int)) else none) (I := fun e => e = [some (.own 0, .tuple (row.map .int)), some (.own 0, .int k), none, none, none, none]) rfl ?_ ?_
    · rintro t ht e rfl V hV
      have ht : t < row.length := by simpa using ht
      have ex : atI (row.map PyData.int) (0 + (t : Int)) = some (.int (row.getD t 0)) := by
        rw [Int.zero_add]
        refine atI_nat ?_
        rw [List.getElem?_map, List.getElem?_eq_getElem ht]
        simp [List.getD, ht]
      simp only [turnW, x_wC, x_wEx, x_wNil, x_wCons, x_wOp, x_wT, x_wAndT, x_wOrT, x_wNotT, x_wIte, x_wAndV, x_wOrV, x_wNotV, x_wChain, x_wTru, x_wFz, x_wTup, x_wLst, x_wStar, x_wP0, x_wP1, x_wCut, x_wNext, x_wBrk, x_wCnt, x_wNever, x_wSeq, x_wNm, y_gn, y_gc, y_tp, x_wNmG, x_wAsg, x_wExpr, x_wRet, x_wRetN, x_wIf, x_wFor, x_wComp, x_wYes, x_wiSeq, x_wiEnum, x_wiRange1, x_wiRange2, y_par, y_al0, y_alC, y_app, x_wDisp, x_wDNew, x_wDNewT, x_wCall, x_wiZip, x_tmp, x_fs0, x_fs1, y_add, y_addS, y_addL, y_addT, y_sub, y_mul, y_rep, y_div, y_mod, y_pow, y_eq, y_eqS, y_eqL, y_eqT, y_ne, y_neS, y_neL, y_neT, y_lt, y_le, y_gt, y_ge, y_isN, y_notN, y_nNone, y_nInt, y_nStr, y_nTup, y_nLst, y_lenL, y_lenT, y_lenS, y_abs, y_max, y_min, y_int, y_intB, y_tupL, y_tupT, y_lstL, y_lstT, y_repr, y_neg, y_ixL, y_ixT, y_cutL, y_cutT, y_rev, y_starT, y_starL, y_starKT, y_starKL, y_itT, y_itKT, y_plain, y_itS, y_itKS, y_var, y_own, y_mv, y_seen, y_seenL, y_fetS, y_sl, y_tm0, y_tmS, y_tmI, y_tmT, y_tmX, y_tmN, y_tn0, y_tnC, y_mapS, y_io0, y_ioV, y_ioB, io_ex, y_nx, y_rt, y_fit0, y_fitT, y_fitN, y_fitX, y_fitS, y_setE0, y_setE1, y_pl, y_un, y_put, y_pop1, List.getElem?_cons_zero, List.getElem?_cons_succ, List.set_cons_zero, List.set_cons_succ, Option.some.injEq, PyData.int.injEq, PyData.bool.injEq, PyData.tuple.injEq, PyData.list.injEq, Prod.mk.injEq, Md.own.injEq, exists_eq_left', exists_eq_left, exists_eq', exists_eq, true_and, and_true, and_self, List.length_cons, List.length_nil, wipeE, restE, decide_eq_true_eq, Bool.not_eq_true', decide_eq_false_iff_not, Nat.reduceAdd, Nat.reduceLT, Nat.reduceLeDiff, Nat.zero_le, Nat.le_refl, waOf, List.map_cons, List.map_nil, Nat.zero_add, List.nil_append, Nat.lt_add_one, y_lfI, y_lfS, y_lfT, y_lfN, y_lfB, or_true, Nat.reduceSub, Nat.add_one_sub_one, List.map_append, List.length_map, exists_and_left, ↓reduceIte, Nat.lt_irrefl, Nat.reduceLT, y_po0, y_poS, y_poN, y_ou0, y_ouI, y_ouV, y_ouB, Bool.true_eq_false, Bool.false_eq_true, reduceCtorEq, a_nil, a_cons, a_vt, a_vs, a_is, a_bs, a_bt, a_v0, a_vl, a_vi, a_i0, a_b0, a_bl, y_bind, ok_0, ok_1, ok_2, ok_3, ok_4, ok_5, ok_6, ok_i1, ok_i2, ok_i3, ok_i4, ok_i5, ok_i6, Option.getD_some, Option.getD_none, y_appB, at_0, at_1, at_2, at_3, y_chL, y_chT, not_true_eq_false, not_false_eq_true, true_or, y_pop0, ex]
      split
      · rename_i h
        rw [if_pos h, Int.zero_add] at *
        exact hV _ rfl
      · rename_i h
        rw [if_neg h] at hV
        exact hV _ rfl
    · rintro e rfl
      walk_at "z5"
      refine hV _ ?_
      have e1 : (onI row k).map PyData.int = (List.range row.length).filterMap fun t => if k ≤ row.getD t 0 then some (PyData.int (t : Int)) else none := by
        unfold onI
        rw [List.map_filterMap]
        refine fm_congr fun t _ => ?_
        split <;> rfl
      rw [e1]
      rfl
  rintro e rfl
  walk_at "z5"
  have ez : zipL ((onI row k).map .int) (cut ((onI row k).map .int) (some 1) none) = ((onI row k).zip (onI row k).tail).map fun p => PyData.tuple [.int p.1, .int p.2] := by
    rw [cut_tail, ← List.map_tail]
    unfold zipL
    rw [List.zipWith_map, List.zip, List.map_zipWith]
  rw [ez]
  refine comp_on (f := fun p : Int × Int => if p.1 + 1 < p.2 then some (gapD (p.1 + 1, p.2 - p.1 - 1)) else none) (I := fun e => e = [some (.own 0, .tuple (row.map .int)), some (.own 0, .int k), some (.own 0, .list ((onI row k).map .int)), none, none, none]) rfl ?_ ?_
  · rintro ⟨a, b⟩ ht e rfl V hV
    walk_at "z6"
    have hV := hV _ rfl
    simp only at hV
    split
    · rename_i h
      rw [if_pos h] at hV
      exact ⟨by decide, hV⟩
    · rename_i h
      rw [if_neg h] at hV
      exact hV
  · rintro e rfl
    walk_at "z5"
    have e2 : ((onI row k).zip (onI row k).tail).filterMap (fun p => if p.1 + 1 < p.2 then some (gapD (p.1 + 1, p.2 - p.1 - 1)) else none) = (pairs (onI row k)).map gapD := by
      unfold pairs
      rw [List.map_filterMap]
      refine fm_congr fun p _ => ?_
      split <;> rfl
    rw [e2]
    exact hR
local macro_rules | `(tactic| walk_at "z4") => `(tactic| simp only [x_wC, x_wEx, x_wNil, x_wCons, x_wOp, x_wT, x_wAndT, x_wOrT, x_wNotT, x_wIte, x_wAndV, x_wOrV, x_wNotV, x_wChain, x_wTru, x_wFz, x_wTup, x_wLst, x_wStar, x_wP0, x_wP1, x_wCut, x_wNext, x_wBrk, x_wCnt, x_wNever, x_wSeq, x_wNm, y_gn, y_gc, y_tp, x_wNmG, x_wAsg, x_wExpr, x_wRet, x_wRetN, x_wIf, x_wFor, x_wComp, x_wYes, x_wiSeq, x_wiEnum, x_wiRange1, x_wiRange2, y_par, y_al0, y_alC, y_app, x_wDisp, x_wDNew, x_wDNewT, x_wCall, x_wiZip, x_tmp, x_fs0, x_fs1, y_add, y_addS, y_addL, y_addT, y_sub, y_mul, y_rep, y_div, y_mod, y_pow, y_eq, y_eqS, y_eqL, y_eqT, y_ne, y_neS, y_neL, y_neT, y_lt, y_le, y_gt, y_ge, y_isN, y_notN, y_nNone, y_nInt, y_nStr, y_nTup, y_nLst, y_lenL, y_lenT, y_lenS, y_abs, y_max, y_min, y_int, y_intB, y_tupL, y_tupT, y_lstL, y_lstT, y_repr, y_neg, y_ixL, y_ixT, y_cutL, y_cutT, y_rev, y_starT, y_starL, y_starKT, y_starKL, y_itT, y_itKT, y_plain, y_itS, y_itKS, y_var, y_own, y_mv, y_seen, y_seenL, y_fetS, y_sl, y_tm0, y_tmS, y_tmI, y_tmT, y_tmX, y_tmN, y_tn0, y_tnC, y_mapS, y_io0, y_ioV, y_ioB, io_ex, y_nx, y_rt, y_fit0, y_fitT, y_fitN, y_fitX, y_fitS, y_setE0, y_setE1, y_pl, y_un, y_put, y_pop1, List.getElem?_cons_zero, List.getElem?_cons_succ, List.set_cons_zero, List.set_cons_succ, Option.some.injEq, PyData.int.injEq, PyData.bool.injEq, PyData.tuple.injEq, PyData.list.injEq, Prod.mk.injEq, Md.own.injEq, exists_eq_left', exists_eq_left, exists_eq', exists_eq, true_and, and_true, and_self, List.length_cons, List.length_nil, wipeE, restE, decide_eq_true_eq, Bool.not_eq_true', decide_eq_false_iff_not, Nat.reduceAdd, Nat.reduceLT, Nat.reduceLeDiff, Nat.zero_le, Nat.le_refl, waOf, List.map_cons, List.map_nil, Nat.zero_add, List.nil_append, Nat.lt_add_one, y_lfI, y_lfS, y_lfT, y_lfN, y_lfB, or_true, Nat.reduceSub, Nat.add_one_sub_one, List.map_append, List.length_map, exists_and_left, ↓reduceIte, Nat.lt_irrefl, y_po0, y_poS, y_poN, y_ou0, y_ouI, y_ouV, y_ouB, Bool.true_eq_false, Bool.false_eq_true, reduceCtorEq, a_nil, a_cons, a_vt, a_vs, a_is, a_bs, a_bt, a_v0, a_vl, a_vi, a_i0, a_b0, a_bl, y_bind, ok_0, ok_1, ok_2, ok_3, ok_4, ok_5, ok_6, ok_i1, ok_i2, ok_i3, ok_i4, ok_i5, ok_i6, Option.getD_some, Option.getD_none, y_appB, at_0, at_1, at_2, at_3, y_chL, y_chT, not_true_eq_false, not_false_eq_true, true_or, y_pop0, pick_ms, pick_sp])
local macro_rules | `(tactic| walk_at "z8") => `(tactic| simp only [x_wC, x_wEx, x_wNil, x_wCons, x_wOp, x_wT, x_wAndT, x_wOrT, x_wNotT, x_wIte, x_wAndV, x_wOrV, x_wNotV, x_wChain, x_wTru, x_wFz, x_wTup, x_wLst, x_wStar, x_wP0, x_wP1, x_wCut, x_wNext, x_wBrk, x_wCnt, x_wNever, x_wSeq, x_wNm, y_gn, y_gc, y_tp, x_wNmG, x_wAsg, x_wExpr, x_wRet, x_wRetN, x_wIf, x_wFor, x_wComp, x_wYes, x_wiSeq, x_wiEnum, x_wiRange1, x_wiRange2, y_par, y_al0, y_alC, y_app, x_wDisp, x_wDNew, x_wDNewT, x_wCall, x_wiZip, x_tmp, x_fs0, x_fs1, y_add, y_addS, y_addL, y_addT, y_sub, y_mul, y_rep, y_div, y_mod, y_pow, y_eq, y_eqS, y_eqL, y_eqT, y_ne, y_neS, y_neL, y_neT, y_lt, y_le, y_gt, y_ge, y_isN, y_notN, y_nNone, y_nInt, y_nStr, y_nTup, y_nLst, y_lenL, y_lenT, y_lenS, y_abs, y_max, y_min, y_int, y_intB, y_tupL, y_tupT, y_lstL, y_lstT, y_repr, y_neg, y_ixL, y_ixT, y_cutL, y_cutT, y_rev, y_starT, y_starL, y_starKT, y_starKL, y_itT, y_itKT, y_plain, y_itS, y_itKS, y_var, y_own, y_mv, y_seen, y_seenL, y_fetS, y_sl, y_tm0, y_tmS, y_tmI, y_tmT, y_tmX, y_tmN, y_tn0, y_tnC, y_mapS, y_io0, y_ioV, y_ioB, io_ex, y_nx, y_rt, y_fit0, y_fitT, y_fitN, y_fitX, y_fitS, y_setE0, y_setE1, y_pl, y_un, y_put, y_pop1, List.getElem?_cons_zero, List.getElem?_cons_succ, List.set_cons_zero, List.set_cons_succ, Option.some.injEq, PyData.int.injEq, PyData.bool.injEq, PyData.tuple.injEq, PyData.list.injEq, Prod.mk.injEq, Md.own.injEq, exists_eq_left', exists_eq_left, exists_eq', exists_eq, true_and, and_true, and_self, List.length_cons, List.length_nil, wipeE, restE, decide_eq_true_eq, Bool.not_eq_true', decide_eq_false_iff_not, Nat.reduceAdd, Nat.reduceLT, Nat.reduceLeDiff, Nat.zero_le, Nat.le_refl, waOf, List.map_cons, List.map_nil, Nat.zero_add, List.nil_append, Nat.lt_add_one, y_lfI, y_lfS, y_lfT, y_lfN, y_lfB, or_true, Nat.reduceSub, Nat.add_one_sub_one, List.map_append, List.length_map, exists_and_left, ↓reduceIte, Nat.lt_irrefl, y_po0, y_poS, y_poN, y_ou0, y_ouI, y_ouV, y_ouB, Bool.true_eq_false, Bool.false_eq_true, reduceCtorEq, a_nil, a_cons, a_vt, a_vs, a_is, a_bs, a_bt, a_v0, a_vl, a_vi, a_i0, a_b0, a_bl, y_bind, ok_0, ok_1, ok_2, ok_3, ok_4, ok_5, ok_6, ok_i1, ok_i2, ok_i3, ok_i4, ok_i5, ok_i6, Option.getD_some, Option.getD_none, y_appB, at_0, at_1, at_2, at_3, y_chL, y_chT, not_true_eq_false, not_false_eq_true, true_or, y_pop0, of_ms, of_sp, pick_ms, pick_sp])
theorem law_draw (ds : List D) (R : Nat → D → List D → Prop) (h : F_draw.sp ds R) : q_draw (entE [.io 2, .val, .val] ds ++ List.replicate 4 none) (endK [.io 2, .val, .val] R) := by
  obtain ⟨N, src, ticks, most, rfl, hs, hN, ht1, ht2, hm1, hm2, hR⟩ := h
  unfold q_draw
  show (wSeq _ _) [some (.own 2, src), some (.own 0, .int ticks), some (.own 0, .int most), none, none, none, none] _
  refine seq_mid (fun e => ∃ src way, e = [some (.own 2, src), some (.own 0, .int ticks), some (.own 0, .int most), some (.own 0, .int way), some (.own 1, .list []), none, none] ∧ Src (N + 1) src) (fun V hV => ?_) ?_
  · walk_at "z4"
    exact ⟨N, hs, by omega, by decide, fun r src' _ _ hs' => hV _ ⟨src', r, rfl, hs'⟩⟩
  rintro e ⟨src, way, rfl, hs⟩
  refine seq_mid (fun e => ∃ (src : D) (found : List Int) (x5 x6 : Slot), e = [some (.own 2, src), some (.own 0, .int ticks), some (.own 0, .int most), some (.own 0, .int way), some (.own 1, .list (found.map .int)), x5, x6] ∧ Src (N + 1000) src ∧ ticks ≤ found.length ∧ ∀ x ∈ found, 0 ≤ x ∧ x ≤ most) (fun V hV => ?_) ?_
  · refine while_inv (n := ticks.toNat) (fun n e => ∃ (src : D) (found : List Int) (x5 x6 : Slot), e = [some (.own 2, src), some (.own 0, .int ticks), some (.own 0, .int most), some (.own 0, .int way), some (.own 1, .list (found.map .int)), x5, x6] ∧ Src (N + 1 + 4 * found.length) src ∧ found.length ≤ 220 ∧ ticks.toNat - found.length = n ∧ ∀ x ∈ found, 0 ≤ x ∧ x ≤ most) ⟨src, [], none, none, rfl, hs, by decide, by simp, by simp⟩ ?_
    rintro n e ⟨src, found, x5, x6, rfl, hs, hf, hn, hall⟩ W hW
    walk_at "z5"
    split
    · rename_i hlt
      have hmost : most.natAbs.log2 < 7000 := by
        have := log2_le (a := most.natAbs) (k := 40) (by omega) (by decide)
        omega
      have hmost1 : (most + 1).natAbs.log2 < 8000 := by
        have := log2_le (a := (most + 1).natAbs) (k := 40) (by omega) (by decide)
        omega
      have next : ∀ (found' : List Int) (src' : D) (x5 x6 : Slot) (c : Nat), c ≤ 4 → found.length + 1 ≤ found'.length → found'.length ≤ 220 → Src (N + 1 + 4 * found.length + c) src' → (∀ x ∈ found', 0 ≤ x ∧ x ≤ most) →
          W [some (.own 2, src'), some (.own 0, .int ticks), some (.own 0, .int most), some (.own 0, .int way), some (.own 1, .list (found'.map .int)), x5, x6] := fun found' src' x5 x6 c hc h1 h2 h3 h4 =>
        hW (ticks.toNat - found'.length) _ (by omega) ⟨src', found', x5, x6, rfl, h3.mono (by omega), h2, rfl, h4⟩
      unfold q_draw_1
      walk_at "z8"
      have szl : sizeLine = 16777216 := sizeLine_eq
      split
      · -- one more, any
        refine ⟨_, hs, by omega, hmost1, fun r s1 r0 r1 hs1 => ⟨by omega, ?_⟩⟩
        have := next (found ++ [r]) s1 x5 x6 1 (by decide) (by simp) (by simp; omega) hs1 (fun x hx => by
          rcases List.mem_append.mp hx with h | h
          · exact hall x h
          · simp at h; omega)
        simpa using this
      · split
        · refine ⟨_, hs, by omega, by omega, fun r s1 r0 r1 hs1 => ⟨by omega, _, hs1, by omega, by decide, fun a s2 a0 a1 hs2 => ?_⟩⟩
          have a1 : a < 3 := by omega
          have l1 : (1 + a).toNat ≤ 3 := by omega
          simp only [List.flatten_replicate_singleton, List.length_replicate, List.length_append, List.length_map]
          refine ⟨by omega, by omega, by omega, by omega, by omega, _, hs2, by omega, by decide, fun b s3 b0 b1 hs3 => ?_⟩
          have b1 : b < 9 := by omega
          have l2 : b.toNat ≤ 8 := by omega
          refine ⟨by omega, by omega, by omega, by omega, ?_⟩
          have := next (found ++ List.replicate (1 + a).toNat (1 + r) ++ List.replicate b.toNat 0) s3 x5 x6 3 (by decide) (by simp; omega) (by simp; omega) hs3 (fun x hx => by
            rcases List.mem_append.mp hx with h | h
            · rcases List.mem_append.mp h with h | h
              · exact hall x h
              · have := List.eq_of_mem_replicate h; omega
            · have := List.eq_of_mem_replicate h; omega)
          simpa using this
        · split
          · have sh : ∀ l : List Int, SeqAt.shaped (.list (l.map .int)) = true := fun l => by
              exact shaped_ints l
            refine ⟨⟨sh found, sh []⟩, ?_⟩
            have last : ∀ (p : Int) (src1 : D) (c : Nat) (x5 : Slot), c ≤ 4 → Src (N + 1 + 4 * found.length + c) src1 → found.length < sizeLine ∧ W [some (.own 2, src1), some (.own 0, .int ticks), some (.own 0, .int most), some (.own 0, .int way), some (.own 1, .list (found.map .int ++ [.int (min most (max 0 p))])), x5, x6] := fun p src1 c x5 hc hs1 => by
              refine ⟨by omega, ?_⟩
              have := next (found ++ [min most (max 0 p)]) src1 x5 x6 c hc (by simp) (by simp; omega) hs1 (fun x hx => by
                rcases List.mem_append.mp hx with h | h
                · exact hall x h
                · simp at h; omega)
              simpa using this
            split
            · rename_i hne
              have hpos : found ≠ [] := by rintro rfl; simp [PyData.eqv, PyData.eqvAll] at hne
              obtain ⟨f0, z, rfl⟩ : ∃ f0 z, found = f0 ++ [z] := ⟨found.dropLast, found.getLast hpos, (List.dropLast_concat_getLast hpos).symm⟩
              refine ⟨.int z, by rw [List.map_append]; exact at_last _ _, _, hs, by omega, by decide, fun r s1 r0 r1 hs1 => ?_⟩
              walk_at "z5"
              have := last (z + r - 2) s1 1 (some (.own 0, .int z)) (by decide) hs1
              simpa using this
            · refine ⟨_, hs, by omega, hmost1, fun r s1 r0 r1 hs1 => ⟨_, hs1, by omega, by decide, fun a s2 a0 a1 hs2 => ?_⟩⟩
              exact last _ s2 2 _ (by decide) hs2
          · have tail : ∀ (v : Int) (src1 : D) (x6 : Slot), 0 ≤ v → v ≤ most → Src (N + 1 + 4 * found.length + 2) src1 → 1 ≤ sizeLine ∧ ∃ N, Src N src1 ∧ N ≤ 2 ^ 60 ∧ (Int.natAbs 4).log2 < 8000 ∧ ∀ (r_1 : Int) (src' : D), 0 ≤ r_1 → r_1 < max 1 4 → Src (N + 1) src' →
                1 + r_1 < 2 ^ 62 ∧ -2 ^ 62 ≤ 1 + r_1 ∧ 1 * (1 + r_1).toNat ≤ sizeLine ∧ found.length + (List.replicate (1 + r_1).toNat [PyData.int v]).flatten.length ≤ sizeLine ∧
                W [some (.own 2, src'), some (.own 0, .int ticks), some (.own 0, .int most), some (.own 0, .int way), some (.own 1, .list (found.map .int ++ (List.replicate (1 + r_1).toNat [PyData.int v]).flatten)), x5, x6] := by
              intro v src1 x6 v0 v1 hs1
              refine ⟨by omega, _, hs1, by omega, by decide, fun a s2 a0 a1 hs2 => ?_⟩
              have a1 : a < 4 := by omega
              simp only [List.flatten_replicate_singleton, List.length_replicate]
              refine ⟨by omega, by omega, by omega, by omega, ?_⟩
              have := next (found ++ List.replicate (1 + a).toNat v) s2 x5 x6 3 (by decide) (by simp; omega) (by simp; omega) hs2 (fun x hx => by
                rcases List.mem_append.mp hx with h | h
                · exact hall x h
                · have := List.eq_of_mem_replicate h; omega)
              simpa using this
            refine ⟨_, hs, by omega, hmost1, fun r s1 r0 r1 hs1 => ⟨by omega, _, hs1, by omega, by omega, ?_⟩⟩
            intro x hx s2 hs2
            simp only [List.mem_cons, List.not_mem_nil, or_false] at hx
            rcases hx with rfl | rfl | rfl | rfl
            · exact tail 0 s2 _ (by decide) (by omega) hs2
            · exact tail 0 s2 _ (by decide) (by omega) hs2
            · exact tail most s2 _ (by omega) (by omega) hs2
            · exact tail r s2 _ r0 (by omega) hs2
    · rename_i hlt
      exact hV _ ⟨src, found, x5, x6, rfl, hs.mono (by omega), by omega, hall⟩
  · rintro e ⟨src, found, x5, x6, rfl, hs, hlen, hall⟩
    walk_at "z5"
    rw [cut_take _ (by omega), ← List.map_take]
    exact hR _ _ (by rw [List.length_take]; omega) (fun x hx => hall x (List.mem_of_mem_take hx)) hs
end Sq
/-! Sq27: needs by layers: closed_by, least_so_far, the cost by layers -/
namespace Sq
open PySem PySem.Spec PyProof.Rows L2
abbrev F__law_source : FS := F_source
abbrev F__law_pick : FS := F_pick
abbrev F__law_of : FS := F_of
abbrev F__law_draw_needs : FS := F_draw
abbrev F__law_gaps : FS := F_lgaps
/-! ### the plain law -/
/-- the valleys that close at tick: st is the stack, its top first -/
def closed (needs : List Int) (tick x : Int) : Int → List Int → List (Int × Int × Int × Int) × List Int
  | _, [] => ([], [])
  | low, a :: st =>
    let n := needs.getD a.toNat 0
    let f := if a + 1 < tick ∧ low < min n x then [(a + 1, tick - a - 1, low, min n x)] else []
    if x < n then (f, a :: st) else
      let r := closed needs tick x (max low n) st
      (f ++ r.1, r.2)
def valD (v : Int × Int × Int × Int) : D := .tuple [.int v.1, .int v.2.1, .int v.2.2.1, .int v.2.2.2]
/-- one tick: total, most, the stack -/
def tickOf (needs : List Int) (b : Int) (s : Int × Int × List Int) (t x : Int) : Int × Int × List Int :=
  let c := closed needs t x 0 s.2.2
  (s.1 + (c.1.map fun v => (v.2.2.2 - v.2.2.1) * min v.2.1 b).sum + x + b * max 0 (x - s.2.1), max s.2.1 x, t :: c.2)
/-- the totals, tick by tick -/
def totals (needs : List Int) (b : Int) : Int × Int × List Int → Int → List Int → List Int
  | _, _, [] => []
  | s, t, x :: r => let s' := tickOf needs b s t x
    s'.1 :: totals needs b s' (t + 1) r
/-- the cost by layers -/
def layersCost (needs : List Int) (b : Int) : Int :=
  needs.sum + ((List.range ((0 :: needs).foldl max 0).toNat).map fun i : Nat => b + ((pairs (onI needs (1 + (i : Int)))).map fun p => min p.2 b).sum).sum
/-! ### what the defs say -/
def F_closed_by : FS := ⟨[.val, .io 1, .val], fun ds R => ∃ (needs st : List Int) (t : Int), ds = [.tuple (needs.map .int), .list (st.reverse.map .int), .int t] ∧ needs.length ≤ 10000 ∧ 0 ≤ t ∧ t < needs.length ∧ (∀ a ∈ st, 0 ≤ a ∧ a < t) ∧ st.length ≤ 10000 ∧
  R 1 (.list ((closed needs t (needs.getD t.toNat 0) 0 st).1.map valD)) [.list ((closed needs t (needs.getD t.toNat 0) 0 st).2.reverse.map .int)]⟩
def F_least_so_far : FS := ⟨[.val, .val], fun ds R => ∃ (needs : List Int) (b : Int), ds = [.tuple (needs.map .int), .int b] ∧ needs.length ≤ 10000 ∧ (∀ x ∈ needs, 0 ≤ x ∧ x ≤ 2 ^ 40) ∧ 0 ≤ b ∧ b ≤ 2 ^ 40 ∧
  R 1 (.list ((totals needs b (0, 0, []) 0 needs).map .int)) []⟩
def F__law_layers_cost : FS := ⟨[.val, .val], fun ds R => ∃ (needs : List Int) (b : Int), ds = [.tuple (needs.map .int), .int b] ∧ needs.length ≤ 1000 ∧ (∀ x ∈ needs, 0 ≤ x ∧ x ≤ 1000000) ∧ R 0 (.int (layersCost needs b)) []⟩
theorem fold_all : ∀ (l : List Int) (a : Int), a ≤ l.foldl max a ∧ (∀ y ∈ l, y ≤ l.foldl max a) ∧ (l.foldl max a = a ∨ l.foldl max a ∈ l)
  | [], a => ⟨Int.le_refl a, fun y h => by simp at h, .inl rfl⟩
  | x :: r, a => by
    obtain ⟨h1, h2, h3⟩ := fold_all r (max a x)
    rw [List.foldl_cons]
    refine ⟨by omega, fun y hy => ?_, ?_⟩
    · rcases List.mem_cons.mp hy with e | hy
      · subst e; omega
      · exact h2 y hy
    · rcases h3 with h | h
      · by_cases c : a ≤ x
        · rw [Int.max_eq_right c] at h ⊢
          exact .inr (by rw [h]; exact List.mem_cons_self)
        · rw [Int.max_eq_left (by omega)] at h ⊢
          exact .inl h
      · exact .inr (List.mem_cons_of_mem _ h)
theorem fold_max {l : List Int} {m : Int} (hm : m ∈ l) (hy : ∀ y ∈ l, y ≤ m) (h0 : 0 ≤ m) : l.foldl max 0 = m := by
  obtain ⟨h1, h2, h3⟩ := fold_all l 0
  have := h2 m hm
  rcases h3 with h | h
  · omega
  · have := hy _ h; omega
theorem closed_sp {xs ks : List D} {t : Int} {R : Nat → D → List D → Prop} : F_closed_by.sp [.tuple xs, .list ks, .int t] R = ∃ (needs st : List Int), xs = needs.map .int ∧ ks = st.reverse.map .int ∧ needs.length ≤ 10000 ∧ 0 ≤ t ∧ t < needs.length ∧ (∀ a ∈ st, 0 ≤ a ∧ a < t) ∧ st.length ≤ 10000 ∧
    R 1 (.list ((closed needs t (needs.getD t.toNat 0) 0 st).1.map valD)) [.list ((closed needs t (needs.getD t.toNat 0) 0 st).2.reverse.map .int)] := by
  apply propext
  constructor
  · rintro ⟨needs, st, t', e, h⟩
    cases e
    exact ⟨needs, st, rfl, rfl, h⟩
  · rintro ⟨needs, st, rfl, rfl, h⟩
    exact ⟨needs, st, t, rfl, h⟩
theorem lsf_ms : F_least_so_far.ms = [.val, .val] := rfl
theorem lc_ms : F__law_layers_cost.ms = [.val, .val] := rfl
theorem lsf_sp {xs : List D} {b : Int} {R : Nat → D → List D → Prop} : F_least_so_far.sp [.tuple xs, .int b] R = ∃ needs : List Int, xs = needs.map .int ∧ needs.length ≤ 10000 ∧ (∀ x ∈ needs, 0 ≤ x ∧ x ≤ 2 ^ 40) ∧ 0 ≤ b ∧ b ≤ 2 ^ 40 ∧ R 1 (.list ((totals needs b (0, 0, []) 0 needs).map .int)) [] := by
  apply propext
  constructor
  · rintro ⟨needs, b', e, h⟩
    cases e
    exact ⟨needs, rfl, h⟩
  · rintro ⟨needs, rfl, h⟩
    exact ⟨needs, b, rfl, h⟩
theorem lc_sp {xs : List D} {b : Int} {R : Nat → D → List D → Prop} : F__law_layers_cost.sp [.tuple xs, .int b] R = ∃ needs : List Int, xs = needs.map .int ∧ needs.length ≤ 1000 ∧ (∀ x ∈ needs, 0 ≤ x ∧ x ≤ 1000000) ∧ R 0 (.int (layersCost needs b)) [] := by
  apply propext
  constructor
  · rintro ⟨needs, b', e, h⟩
    cases e
    exact ⟨needs, rfl, h⟩
  · rintro ⟨needs, rfl, h⟩
    exact ⟨needs, b, rfl, h⟩
theorem closed_ms : F_closed_by.ms = [.val, .io 1, .val] := rfl
theorem closed_stack (needs : List Int) (t x : Int) : ∀ {low : Int} {st : List Int}, (∀ a ∈ (closed needs t x low st).2, a ∈ st) ∧ (closed needs t x low st).2.length ≤ st.length
  | low, [] => by simp [closed]
  | low, a :: st => by
    obtain ⟨h1, h2⟩ := closed_stack needs t x (low := max low (needs.getD a.toNat 0)) (st := st)
    simp only [closed]
    split
    · exact ⟨fun b hb => hb, Nat.le_refl _⟩
    · exact ⟨fun b hb => List.mem_cons_of_mem _ (h1 b hb), by simp only [List.length_cons]; omega⟩
/-! ### the stack tells of each level the last tick that is at it -/
def gapOf (t b : Int) : Option Int → Int
  | some a => if a + 1 < t then min (t - a - 1) b else 0
  | none => 0
/-- the sum of f at low + 1, .., x -/
def upTo (f : Int → Int) (low : Int) (n : Nat) : Int := ((List.range n).map fun i : Nat => f (low + 1 + (i : Int))).sum
theorem upTo_add (f : Int → Int) (low : Int) (n m : Nat) : upTo f low (n + m) = upTo f low n + upTo f (low + n) m := by
  unfold upTo
  rw [List.range_add, List.map_append, List.sum_append, List.map_map]
  congr 2
  refine List.map_congr_left fun i _ => ?_
  show f (low + 1 + ((n + i : Nat) : Int)) = f (low + n + 1 + (i : Int))
  congr 1
  push_cast
  omega
theorem upTo_congr {f g : Int → Int} {low : Int} {n : Nat} (h : ∀ k, low < k → k ≤ low + n → f k = g k) : upTo f low n = upTo g low n := by
  unfold upTo
  congr 1
  refine List.map_congr_left fun i hi => h _ ?_ ?_
  · omega
  · have := List.mem_range.mp hi; omega
theorem upTo_const (c low : Int) : ∀ n : Nat, upTo (fun _ => c) low n = n * c
  | 0 => by simp [upTo]
  | n + 1 => by
    rw [upTo_add, upTo_const c low n]
    have : upTo (fun _ => c) (low + n) 1 = c := by simp [upTo]
    rw [this]
    push_cast
    rw [Int.add_mul, Int.one_mul]
def nAt (needs : List Int) (a : Int) : Int := needs.getD a.toNat 0
theorem upTo_plus (f g : Int → Int) (low : Int) : ∀ n : Nat, upTo (fun k => f k + g k) low n = upTo f low n + upTo g low n
  | 0 => rfl
  | n + 1 => by
    rw [upTo_add, upTo_add, upTo_add, upTo_plus f g low n]
    have : ∀ h : Int → Int, upTo h (low + n) 1 = h (low + n + 1) := fun h => by simp [upTo]
    rw [this, this, this]
    omega
def costP (row : List Int) (b k : Int) : Int := ((pairs (onI row k)).map fun p => min p.2 b).sum
theorem costP_snoc (row : List Int) (x b k : Int) : costP (row ++ [x]) b k = costP row b k + (if k ≤ x then gapOf row.length b (onI row k).getLast? else 0) := by
  unfold costP
  rw [onI_snoc]
  by_cases h : k ≤ x
  · rw [if_pos h, if_pos h, pairs_snoc, List.map_append, List.sum_append]
    congr 1
    cases (onI row k).getLast? with
    | none => rfl
    | some a =>
      simp only [gapOf]
      split
      · simp
      · simp
  · rw [if_neg h, if_neg h, List.append_nil, Int.add_zero]
def topN (row : List Int) : Int := (0 :: row).foldl max 0
theorem topN_le (row : List Int) : 0 ≤ topN row ∧ ∀ x ∈ row, x ≤ topN row := by
  obtain ⟨h1, h2, _⟩ := fold_all (0 :: row) 0
  exact ⟨h1, fun x hx => h2 x (List.mem_cons_of_mem _ hx)⟩
theorem cost_eq (row : List Int) (b : Int) : layersCost row b = row.sum + upTo (fun k => b + costP row b k) 0 (topN row).toNat := by
  unfold layersCost upTo costP topN
  congr 2
/-! closed_by: slots 0 needs 1 kept 2 tick 3 found 4 low 5 last 6 high; cells []; calls [] -/
def q_closed_by_1 : WS := (wSeq (wAsg (wOp oIx (wCons (wSl 1) (wCons (wEx (wOp oNeg (wCons (wEx (wC (.int 1))) wNil))) wNil))) (wNmG 5)) (wSeq (wAsg (wOp oMin2 (wCons (wEx (wOp oIx (wCons (wSl 0) (wCons (wSl 5) wNil)))) (wCons (wEx (wOp oIx (wCons (wSl 0) (wCons (wSl 2) wNil)))) wNil))) (wNmG 6)) (wSeq (wIf (wAndT (wT (wOp oGt (wCons (wEx (wOp oSub (wCons (wSl 2) (wCons (wSl 5) wNil)))) (wCons (wEx (wC (.int 1))) wNil)))) (wT (wOp oLt (wCons (wSl 4) (wCons (wSl 6) wNil))))) (wSeq (wExpr (wApp 3 (wTup (wCons (wEx (wOp oAdd (wCons (wSl 5) (wCons (wEx (wC (.int 1))) wNil)))) (wCons (wEx (wOp oSub (wCons (wEx (wOp oSub (wCons (wSl 2) (wCons (wSl 5) wNil)))) (wCons (wEx (wC (.int 1))) wNil)))) (wCons (wEx (wVar 4)) (wCons (wEx (wVar 6)) wNil))))))) wNext) wNext) (wSeq (wIf (wT (wOp oGt (wCons (wEx (wOp oIx (wCons (wSl 0) (wCons (wSl 5) wNil)))) (wCons (wEx (wOp oIx (wCons (wSl 0) (wCons (wSl 2) wNil)))) wNil)))) (wSeq wBrk wNext) wNext) (wSeq (wAsg (wOp oMax2 (wCons (wSl 4) (wCons (wEx (wOp oIx (wCons (wSl 0) (wCons (wEx (wPop (.s 1))) wNil)))) wNil))) (wNmG 4)) wNext)))))
def q_closed_by : WS := (wSeq (wPar [3, 4] (wCons (wEx (wLst 0 wNil)) (wCons (wEx (wC (.int 0))) wNil))) (wSeq (wWhile (wT (wOp oNe (wCons (wSl 1) (wCons (wEx (wLst 0 wNil)) wNil)))) q_closed_by_1) (wSeq (wRet (wMv 3)) wNext)))
/-! least_so_far: slots 0 needs 1 b 2 found 3 kept 4 total 5 most 6 tick 7 need 8 begin 9 length 10 low 11 high; cells []; calls ['closed_by'] -/
/-! _law_layers_cost: slots 0 needs 1 b 2 found 3 k 4 begin 5 length; cells ['b']; calls ['_law_gaps'] -/
def q__law_layers_cost_1 : WS := (wSeq (wAsg (wOp oAdd (wCons (wEx (wOp oAdd (wCons (wSl 2) (wCons (wSl 1) wNil)))) (wCons (wEx (wOp oSum (wCons (wEx (wComp (wiSeq (wEx (wCall F__law_gaps (wCons (wSl 0) (wCons (wSl 3) wNil))))) (wTp 2 (wGc (wNmG 4) (wGc (wNmG 5) wGn))) wYes (wOp oMin2 (wCons (wSl 5) (wCons (wSl 1) wNil))) [4, 5] 0)) wNil))) wNil))) (wNmG 2)) wNext)
def q__law_layers_cost : WS := (wSeq (wAsg (wOp oSum (wCons (wSl 0) wNil)) (wNmG 2)) (wSeq (wFor (wiRange2 (wC (.int 1)) (wOp oAdd (wCons (wEx (wOp oMax1 (wCons (wEx (wOp oAdd (wCons (wEx (wLst 0 (wCons (wEx (wC (.int 0))) wNil))) (wCons (wEx (wOp oList (wCons (wSl 0) wNil))) wNil)))) wNil))) (wCons (wEx (wC (.int 1))) wNil)))) (wNmG 3) q__law_layers_cost_1) (wSeq (wRet (wVar 2)) wNext)))
theorem at_row {needs : List Int} {a : Int} (h0 : 0 ≤ a) (h : a < needs.length) : atI (needs.map PyData.int) a = some (.int (needs.getD a.toNat 0)) := by
  refine at_int h0 ?_
  have hl : a.toNat < needs.length := by omega
  rw [List.getElem?_map, List.getElem?_eq_getElem hl]
  simp [List.getD, hl]
theorem neL (l : List Int) : PyData.eqv (.list (l.map .int)) (.list []) = decide (l = []) := by
  cases l with
  | nil => rfl
  | cons a r => rfl
local macro_rules | `(tactic| walk_at "z5") => `(tactic| simp only [x_wC, x_wEx, x_wNil, x_wCons, x_wOp, x_wT, x_wAndT, x_wOrT, x_wNotT, x_wIte, x_wAndV, x_wOrV, x_wNotV, x_wChain, x_wTru, x_wFz, x_wTup, x_wLst, x_wStar, x_wP0, x_wP1, x_wCut, x_wNext, x_wBrk, x_wCnt, x_wNever, x_wSeq, x_wNm, y_gn, y_gc, y_tp, x_wNmG, x_wAsg, x_wExpr, x_wRet, x_wRetN, x_wIf, x_wFor, x_wComp, x_wYes, x_wiSeq, x_wiEnum, x_wiRange1, x_wiRange2, y_par, y_al0, y_alC, y_app, x_wDisp, x_wDNew, x_wDNewT, x_wCall, x_wiZip, x_tmp, x_fs0, x_fs1, y_add, y_addS, y_addL, y_addT, y_sub, y_mul, y_rep, y_div, y_mod, y_pow, y_eq, y_eqS, y_eqL, y_eqT, y_ne, y_neS, y_neL, y_neT, y_lt, y_le, y_gt, y_ge, y_isN, y_notN, y_nNone, y_nInt, y_nStr, y_nTup, y_nLst, y_lenL, y_lenT, y_lenS, y_abs, y_max, y_min, y_int, y_intB, y_tupL, y_tupT, y_lstL, y_lstT, y_repr, y_neg, y_ixL, y_ixT, y_cutL, y_cutT, y_rev, y_starT, y_starL, y_starKT, y_starKL, y_itT, y_itKT, y_plain, y_itS, y_itKS, y_var, y_own, y_mv, y_seen, y_seenL, y_fetS, y_sl, y_tm0, y_tmS, y_tmI, y_tmT, y_tmX, y_tmN, y_tn0, y_tnC, y_mapS, y_io0, y_ioV, y_ioB, io_ex, y_nx, y_rt, y_fit0, y_fitT, y_fitN, y_fitX, y_fitS, y_setE0, y_setE1, y_pl, y_un, y_put, y_pop1, List.getElem?_cons_zero, List.getElem?_cons_succ, List.set_cons_zero, List.set_cons_succ, Option.some.injEq, PyData.int.injEq, PyData.bool.injEq, PyData.tuple.injEq, PyData.list.injEq, Prod.mk.injEq, Md.own.injEq, exists_eq_left', exists_eq_left, exists_eq', exists_eq, true_and, and_true, and_self, List.length_cons, List.length_nil, wipeE, restE, decide_eq_true_eq, Bool.not_eq_true', decide_eq_false_iff_not, Nat.reduceAdd, Nat.reduceLT, Nat.reduceLeDiff, Nat.zero_le, Nat.le_refl, waOf, List.map_cons, List.map_nil, Nat.zero_add, List.nil_append, Nat.lt_add_one, y_lfI, y_lfS, y_lfT, y_lfN, y_lfB, or_true, Nat.reduceSub, Nat.add_one_sub_one, List.map_append, List.length_map, exists_and_left, ↓reduceIte, Nat.lt_irrefl, y_po0, y_poS, y_poN, y_ou0, y_ouI, y_ouV, y_ouB, Bool.true_eq_false, Bool.false_eq_true, reduceCtorEq, a_nil, a_cons, a_vt, a_vs, a_is, a_bs, a_bt, a_v0, a_vl, a_vi, a_i0, a_b0, a_bl, y_bind, ok_0, ok_1, ok_2, ok_3, ok_4, ok_5, ok_6, ok_i1, ok_i2, ok_i3, ok_i4, ok_i5, ok_i6, Option.getD_some, Option.getD_none, y_appB, at_0, at_1, at_2, at_3, y_chL, y_chT, not_true_eq_false, not_false_eq_true, true_or, y_pop0])
theorem law_closed_by (ds : List D) (R : Nat → D → List D → Prop) (h : F_closed_by.sp ds R) : q_closed_by (entE [.val, .io 1, .val] ds ++ List.replicate 4 none) (endK [.val, .io 1, .val] R) := by
  obtain ⟨needs, st, t, rfl, hl, t0, t1, hst, hsl, hR⟩ := h
  have szl : sizeLine = 16777216 := sizeLine_eq
  unfold q_closed_by
  show (wSeq _ _) [some (.own 0, .tuple (needs.map .int)), some (.own 1, .list (st.reverse.map .int)), some (.own 0, .int t), none, none, none, none] _
  refine seq_mid (fun e => e = [some (.own 0, .tuple (needs.map .int)), some (.own 1, .list (st.reverse.map .int)), some (.own 0, .int t), some (.own 1, .list []), some (.own 0, .int 0), none, none]) (fun V hV => ?_) ?_
  · walk_at "z5"
    exact hV _ rfl
  rintro e rfl
  generalize hx : needs.getD t.toNat 0 = x at hR
  generalize htot : closed needs t x 0 st = tot at hR
  refine seq_mid (fun e => ∃ x4 x5 x6, e = [some (.own 0, .tuple (needs.map .int)), some (.own 1, .list (tot.2.reverse.map .int)), some (.own 0, .int t), some (.own 1, .list (tot.1.map valD)), x4, x5, x6]) (fun V hV => ?_) ?_
  · refine while_inv (n := st.length) (fun n e => ∃ (low : Int) (st : List Int) (acc : List (Int × Int × Int × Int)) (x5 x6 : Slot), e = [some (.own 0, .tuple (needs.map .int)), some (.own 1, .list (st.reverse.map .int)), some (.own 0, .int t), some (.own 1, .list (acc.map valD)), some (.own 0, .int low), x5, x6] ∧
        st.length = n ∧ (∀ a ∈ st, 0 ≤ a ∧ a < t) ∧ acc ++ (closed needs t x low st).1 = tot.1 ∧ (closed needs t x low st).2 = tot.2 ∧ acc.length + st.length ≤ 100000) ⟨0, st, [], none, none, rfl, rfl, hst, by rw [htot]; rfl, by rw [htot], by simp; omega⟩ ?_
    rintro n e ⟨low, st, acc, x5, x6, rfl, hn, hst, h1, h2, hb⟩ W hW
    simp only [x_wC, x_wEx, x_wNil, x_wCons, x_wOp, x_wT, x_wAndT, x_wOrT, x_wNotT, x_wIte, x_wAndV, x_wOrV, x_wNotV, x_wChain, x_wTru, x_wFz, x_wTup, x_wLst, x_wStar, x_wP0, x_wP1, x_wCut, x_wNext, x_wBrk, x_wCnt, x_wNever, x_wSeq, x_wNm, y_gn, y_gc, y_tp, x_wNmG, x_wAsg, x_wExpr, x_wRet, x_wRetN, x_wIf, x_wFor, x_wComp, x_wYes, x_wiSeq, x_wiEnum, x_wiRange1, x_wiRange2, y_par, y_al0, y_alC, y_app, x_wDisp, x_wDNew, x_wDNewT, x_wCall, x_wiZip, x_tmp, x_fs0, x_fs1, y_add, y_addS, y_addL, y_addT, y_sub, y_mul, y_rep, y_div, y_mod, y_pow, y_eq, y_eqS, y_eqL, y_eqT, y_ne, y_neS, y_neL, y_neT, y_lt, y_le, y_gt, y_ge, y_isN, y_notN, y_nNone, y_nInt, y_nStr, y_nTup, y_nLst, y_lenL, y_lenT, y_lenS, y_abs, y_max, y_min, y_int, y_intB, y_tupL, y_tupT, y_lstL, y_lstT, y_repr, y_neg, y_ixL, y_ixT, y_cutL, y_cutT, y_rev, y_starT, y_starL, y_starKT, y_starKL, y_itT, y_itKT, y_plain, y_itS, y_itKS, y_var, y_own, y_mv, y_seen, y_seenL, y_fetS, y_sl, y_tm0, y_tmS, y_tmI, y_tmT, y_tmX, y_tmN, y_tn0, y_tnC, y_mapS, y_io0, y_ioV, y_ioB, io_ex, y_nx, y_rt, y_fit0, y_fitT, y_fitN, y_fitX, y_fitS, y_setE0, y_setE1, y_pl, y_un, y_put, y_pop1, List.getElem?_cons_zero, List.getElem?_cons_succ, List.set_cons_zero, List.set_cons_succ, Option.some.injEq, PyData.int.injEq, PyData.bool.injEq, PyData.tuple.injEq, PyData.list.injEq, Prod.mk.injEq, Md.own.injEq, exists_eq_left', exists_eq_left, exists_eq', exists_eq, true_and, and_true, and_self, List.length_cons, List.length_nil, wipeE, restE, decide_eq_true_eq, Bool.not_eq_true', decide_eq_false_iff_not, Nat.reduceAdd, Nat.reduceLT, Nat.reduceLeDiff, Nat.zero_le, Nat.le_refl, waOf, List.map_cons, List.map_nil, Nat.zero_add, List.nil_append, Nat.lt_add_one, y_lfI, y_lfS, y_lfT, y_lfN, y_lfB, or_true, Nat.reduceSub, Nat.add_one_sub_one, List.map_append, List.length_map, exists_and_left, ↓reduceIte, Nat.lt_irrefl, y_po0, y_poS, y_poN, y_ou0, y_ouI, y_ouV, y_ouB, Bool.true_eq_false, Bool.false_eq_true, reduceCtorEq, a_nil, a_cons, a_vt, a_vs, a_is, a_bs, a_bt, a_v0, a_vl, a_vi, a_i0, a_b0, a_bl, y_bind, ok_0, ok_1, ok_2, ok_3, ok_4, ok_5, ok_6, ok_i1, ok_i2, ok_i3, ok_i4, ok_i5, ok_i6, Option.getD_some, Option.getD_none, y_appB, at_0, at_1, at_2, at_3, y_chL, y_chT, not_true_eq_false, not_false_eq_true, true_or, y_pop0, neL]
    refine ⟨⟨shaped_ints _, shaped_ints []⟩, ?_⟩
    cases st with
    | nil =>
      rw [if_neg (by simp)]
      have e1 : acc = tot.1 := by simpa [closed] using h1
      have e2 : [] = tot.2 := by simpa [closed] using h2
      rw [show ([] : List Int).reverse = tot.2.reverse by rw [← e2], e1]
      exact hV _ ⟨_, _, _, rfl⟩
    | cons a st =>
      rw [if_pos (by simp)]
      have ha := hst a List.mem_cons_self
      have al : a < needs.length := by omega
      have ea : atI (st.reverse.map PyData.int ++ [.int a]) (-1) = some (.int a) := at_last _ _
      have er : atI (needs.map PyData.int) a = some (.int (needs.getD a.toNat 0)) := at_row ha.1 al
      have et : atI (needs.map PyData.int) t = some (.int x) := by rw [← hx]; exact at_row t0 t1
      rw [List.reverse_cons]
      unfold q_closed_by_1
      simp only [x_wC, x_wEx, x_wNil, x_wCons, x_wOp, x_wT, x_wAndT, x_wOrT, x_wNotT, x_wIte, x_wAndV, x_wOrV, x_wNotV, x_wChain, x_wTru, x_wFz, x_wTup, x_wLst, x_wStar, x_wP0, x_wP1, x_wCut, x_wNext, x_wBrk, x_wCnt, x_wNever, x_wSeq, x_wNm, y_gn, y_gc, y_tp, x_wNmG, x_wAsg, x_wExpr, x_wRet, x_wRetN, x_wIf, x_wFor, x_wComp, x_wYes, x_wiSeq, x_wiEnum, x_wiRange1, x_wiRange2, y_par, y_al0, y_alC, y_app, x_wDisp, x_wDNew, x_wDNewT, x_wCall, x_wiZip, x_tmp, x_fs0, x_fs1, y_add, y_addS, y_addL, y_addT, y_sub, y_mul, y_rep, y_div, y_mod, y_pow, y_eq, y_eqS, y_eqL, y_eqT, y_ne, y_neS, y_neL, y_neT, y_lt, y_le, y_gt, y_ge, y_isN, y_notN, y_nNone, y_nInt, y_nStr, y_nTup, y_nLst, y_lenL, y_lenT, y_lenS, y_abs, y_max, y_min, y_int, y_intB, y_tupL, y_tupT, y_lstL, y_lstT, y_repr, y_neg, y_ixL, y_ixT, y_cutL, y_cutT, y_rev, y_starT, y_starL, y_starKT, y_starKL, y_itT, y_itKT, y_plain, y_itS, y_itKS, y_var, y_own, y_mv, y_seen, y_seenL, y_fetS, y_sl, y_tm0, y_tmS, y_tmI, y_tmT, y_tmX, y_tmN, y_tn0, y_tnC, y_mapS, y_io0, y_ioV, y_ioB, io_ex, y_nx, y_rt, y_fit0, y_fitT, y_fitN, y_fitX, y_fitS, y_setE0, y_setE1, y_pl, y_un, y_put, y_pop1, List.getElem?_cons_zero, List.getElem?_cons_succ, List.set_cons_zero, List.set_cons_succ, Option.some.injEq, PyData.int.injEq, PyData.bool.injEq, PyData.tuple.injEq, PyData.list.injEq, Prod.mk.injEq, Md.own.injEq, exists_eq_left', exists_eq_left, exists_eq', exists_eq, true_and, and_true, and_self, List.length_cons, List.length_nil, wipeE, restE, decide_eq_true_eq, Bool.not_eq_true', decide_eq_false_iff_not, Nat.reduceAdd, Nat.reduceLT, Nat.reduceLeDiff, Nat.zero_le, Nat.le_refl, waOf, List.map_cons, List.map_nil, Nat.zero_add, List.nil_append, Nat.lt_add_one, y_lfI, y_lfS, y_lfT, y_lfN, y_lfB, or_true, Nat.reduceSub, Nat.add_one_sub_one, List.map_append, List.length_map, exists_and_left, ↓reduceIte, Nat.lt_irrefl, y_po0, y_poS, y_poN, y_ou0, y_ouI, y_ouV, y_ouB, Bool.true_eq_false, Bool.false_eq_true, reduceCtorEq, a_nil, a_cons, a_vt, a_vs, a_is, a_bs, a_bt, a_v0, a_vl, a_vi, a_i0, a_b0, a_bl, y_bind, ok_0, ok_1, ok_2, ok_3, ok_4, ok_5, ok_6, ok_i1, ok_i2, ok_i3, ok_i4, ok_i5, ok_i6, Option.getD_some, Option.getD_none, y_appB, at_0, at_1, at_2, at_3, y_chL, y_chT, not_true_eq_false, not_false_eq_true, true_or, y_pop0, ea, er, et, List.getLast?_concat, List.dropLast_concat]
      generalize hn' : needs.getD a.toNat 0 = n at *
      have hc : closed needs t x low (a :: st) = (let f := if a + 1 < t ∧ low < min n x then [(a + 1, t - a - 1, low, min n x)] else []
          if x < n then (f, a :: st) else
            let r := closed needs t x (max low n) st
            (f ++ r.1, r.2)) := by
        simp only [closed, hn']
      rw [hc] at h1 h2
      simp only at h1 h2
      have big : acc.length < sizeLine := by simp at hb; omega
      have out : ∀ x4 x5 x6, x < n → ∀ f, (if a + 1 < t ∧ low < min n x then [(a + 1, t - a - 1, low, min n x)] else []) = f → V [some (.own 0, .tuple (needs.map .int)), some (.own 1, .list (st.reverse.map .int ++ [.int a])), some (.own 0, .int t), some (.own 1, .list ((acc ++ f).map valD)), x4, x5, x6] := by
        intro x4 x5 x6 hlt f hf
        rw [hf, if_pos hlt] at h1 h2
        simp only at h1 h2
        have e2 : st.reverse.map PyData.int ++ [PyData.int a] = tot.2.reverse.map .int := by rw [← h2]; simp
        rw [e2, h1]
        exact hV _ ⟨_, _, _, rfl⟩
      have go : ∀ x5 x6, ¬ x < n → ∀ f, (if a + 1 < t ∧ low < min n x then [(a + 1, t - a - 1, low, min n x)] else []) = f → W [some (.own 0, .tuple (needs.map .int)), some (.own 1, .list (st.reverse.map .int)), some (.own 0, .int t), some (.own 1, .list ((acc ++ f).map valD)), some (.own 0, .int (max low n)), x5, x6] := by
        intro x5 x6 hlt f hf
        have lf : f.length ≤ 1 := by rw [← hf]; split <;> simp
        rw [hf, if_neg hlt] at h1 h2
        simp only at h1 h2
        refine hW st.length _ (by simp at hn; omega) ⟨max low n, st, acc ++ f, x5, x6, rfl, rfl, fun b hb => hst b (List.mem_cons_of_mem _ hb), by rw [List.append_assoc]; exact h1, h2, ?_⟩
        simp at hb ⊢
        omega
      split
      · rename_i c1
        split
        · rename_i c2
          have ef : (if a + 1 < t ∧ low < min n x then [(a + 1, t - a - 1, low, min n x)] else []) = [(a + 1, t - a - 1, low, min n x)] := if_pos ⟨by omega, c2⟩
          refine ⟨by show 4 ≤ sizeLine; omega, big, ?_⟩
          split
          · rename_i c3
            have := out (some (.own 0, .int low)) (some (.own 0, .int a)) (some (.own 0, .int (min n x))) c3 _ ef
            simpa [valD] using this
          · rename_i c3
            have := go (some (.own 0, .int a)) (some (.own 0, .int (min n x))) c3 _ ef
            simpa [valD] using this
        · rename_i c2
          have ef : (if a + 1 < t ∧ low < min n x then [(a + 1, t - a - 1, low, min n x)] else []) = [] := if_neg fun h => c2 h.2
          split
          · rename_i c3
            have := out (some (.own 0, .int low)) (some (.own 0, .int a)) (some (.own 0, .int (min n x))) c3 _ ef
            simpa using this
          · rename_i c3
            have := go (some (.own 0, .int a)) (some (.own 0, .int (min n x))) c3 _ ef
            simpa using this
      · rename_i c1
        have ef : (if a + 1 < t ∧ low < min n x then [(a + 1, t - a - 1, low, min n x)] else []) = [] := if_neg fun h => c1 (by omega)
        split
        · rename_i c3
          have := out (some (.own 0, .int low)) (some (.own 0, .int a)) (some (.own 0, .int (min n x))) c3 _ ef
          simpa using this
        · rename_i c3
          have := go (some (.own 0, .int a)) (some (.own 0, .int (min n x))) c3 _ ef
          simpa using this
  · rintro e ⟨x4, x5, x6, rfl⟩
    walk_at "z5"
    exact hR
local macro_rules | `(tactic| walk_at "z9") => `(tactic| simp only [x_wC, x_wEx, x_wNil, x_wCons, x_wOp, x_wT, x_wAndT, x_wOrT, x_wNotT, x_wIte, x_wAndV, x_wOrV, x_wNotV, x_wChain, x_wTru, x_wFz, x_wTup, x_wLst, x_wStar, x_wP0, x_wP1, x_wCut, x_wNext, x_wBrk, x_wCnt, x_wNever, x_wSeq, x_wNm, y_gn, y_gc, y_tp, x_wNmG, x_wAsg, x_wExpr, x_wRet, x_wRetN, x_wIf, x_wFor, x_wComp, x_wYes, x_wiSeq, x_wiEnum, x_wiRange1, x_wiRange2, y_par, y_al0, y_alC, y_app, x_wDisp, x_wDNew, x_wDNewT, x_wCall, x_wiZip, x_tmp, x_fs0, x_fs1, y_add, y_addS, y_addL, y_addT, y_sub, y_mul, y_rep, y_div, y_mod, y_pow, y_eq, y_eqS, y_eqL, y_eqT, y_ne, y_neS, y_neL, y_neT, y_lt, y_le, y_gt, y_ge, y_isN, y_notN, y_nNone, y_nInt, y_nStr, y_nTup, y_nLst, y_lenL, y_lenT, y_lenS, y_abs, y_max, y_min, y_int, y_intB, y_tupL, y_tupT, y_lstL, y_lstT, y_repr, y_neg, y_ixL, y_ixT, y_cutL, y_cutT, y_rev, y_starT, y_starL, y_starKT, y_starKL, y_itT, y_itKT, y_plain, y_itS, y_itKS, y_var, y_own, y_mv, y_seen, y_seenL, y_fetS, y_sl, y_tm0, y_tmS, y_tmI, y_tmT, y_tmX, y_tmN, y_tn0, y_tnC, y_mapS, y_io0, y_ioV, y_ioB, io_ex, y_nx, y_rt, y_fit0, y_fitT, y_fitN, y_fitX, y_fitS, y_setE0, y_setE1, y_pl, y_un, y_put, y_pop1, List.getElem?_cons_zero, List.getElem?_cons_succ, List.set_cons_zero, List.set_cons_succ, Option.some.injEq, PyData.int.injEq, PyData.bool.injEq, PyData.tuple.injEq, PyData.list.injEq, Prod.mk.injEq, Md.own.injEq, exists_eq_left', exists_eq_left, exists_eq', exists_eq, true_and, and_true, and_self, List.length_cons, List.length_nil, wipeE, restE, decide_eq_true_eq, Bool.not_eq_true', decide_eq_false_iff_not, Nat.reduceAdd, Nat.reduceLT, Nat.reduceLeDiff, Nat.zero_le, Nat.le_refl, waOf, List.map_cons, List.map_nil, Nat.zero_add, List.nil_append, Nat.lt_add_one, y_lfI, y_lfS, y_lfT, y_lfN, y_lfB, or_true, Nat.reduceSub, Nat.add_one_sub_one, List.map_append, List.length_map, exists_and_left, ↓reduceIte, Nat.lt_irrefl, y_po0, y_poS, y_poN, y_ou0, y_ouI, y_ouV, y_ouB, Bool.true_eq_false, Bool.false_eq_true, reduceCtorEq, a_nil, a_cons, a_vt, a_vs, a_is, a_bs, a_bt, a_v0, a_vl, a_vi, a_i0, a_b0, a_bl, y_bind, ok_0, ok_1, ok_2, ok_3, ok_4, ok_5, ok_6, ok_i1, ok_i2, ok_i3, ok_i4, ok_i5, ok_i6, Option.getD_some, Option.getD_none, y_appB, at_0, at_1, at_2, at_3, y_chL, y_chT, not_true_eq_false, not_false_eq_true, true_or, y_pop0, y_sumT])
local macro_rules | `(tactic| walk_at "z10") => `(tactic| simp only [x_wC, x_wEx, x_wNil, x_wCons, x_wOp, x_wT, x_wAndT, x_wOrT, x_wNotT, x_wIte, x_wAndV, x_wOrV, x_wNotV, x_wChain, x_wTru, x_wFz, x_wTup, x_wLst, x_wStar, x_wP0, x_wP1, x_wCut, x_wNext, x_wBrk, x_wCnt, x_wNever, x_wSeq, x_wNm, y_gn, y_gc, y_tp, x_wNmG, x_wAsg, x_wExpr, x_wRet, x_wRetN, x_wIf, x_wFor, x_wComp, x_wYes, x_wiSeq, x_wiEnum, x_wiRange1, x_wiRange2, y_par, y_al0, y_alC, y_app, x_wDisp, x_wDNew, x_wDNewT, x_wCall, x_wiZip, x_tmp, x_fs0, x_fs1, y_add, y_addS, y_addL, y_addT, y_sub, y_mul, y_rep, y_div, y_mod, y_pow, y_eq, y_eqS, y_eqL, y_eqT, y_ne, y_neS, y_neL, y_neT, y_lt, y_le, y_gt, y_ge, y_isN, y_notN, y_nNone, y_nInt, y_nStr, y_nTup, y_nLst, y_lenL, y_lenT, y_lenS, y_abs, y_max, y_min, y_int, y_intB, y_tupL, y_tupT, y_lstL, y_lstT, y_repr, y_neg, y_ixL, y_ixT, y_cutL, y_cutT, y_rev, y_starT, y_starL, y_starKT, y_starKL, y_itT, y_itKT, y_plain, y_itS, y_itKS, y_var, y_own, y_mv, y_seen, y_seenL, y_fetS, y_sl, y_tm0, y_tmS, y_tmI, y_tmT, y_tmX, y_tmN, y_tn0, y_tnC, y_mapS, y_io0, y_ioV, y_ioB, io_ex, y_nx, y_rt, y_fit0, y_fitT, y_fitN, y_fitX, y_fitS, y_setE0, y_setE1, y_pl, y_un, y_put, y_pop1, List.getElem?_cons_zero, List.getElem?_cons_succ, List.set_cons_zero, List.set_cons_succ, Option.some.injEq, PyData.int.injEq, PyData.bool.injEq, PyData.tuple.injEq, PyData.list.injEq, Prod.mk.injEq, Md.own.injEq, exists_eq_left', exists_eq_left, exists_eq', exists_eq, true_and, and_true, and_self, List.length_cons, List.length_nil, wipeE, restE, decide_eq_true_eq, Bool.not_eq_true', decide_eq_false_iff_not, Nat.reduceAdd, Nat.reduceLT, Nat.reduceLeDiff, Nat.zero_le, Nat.le_refl, waOf, List.map_cons, List.map_nil, Nat.zero_add, List.nil_append, Nat.lt_add_one, y_lfI, y_lfS, y_lfT, y_lfN, y_lfB, or_true, Nat.reduceSub, Nat.add_one_sub_one, List.map_append, List.length_map, exists_and_left, ↓reduceIte, Nat.lt_irrefl, y_po0, y_poS, y_poN, y_ou0, y_ouI, y_ouV, y_ouB, Bool.true_eq_false, Bool.false_eq_true, reduceCtorEq, a_nil, a_cons, a_vt, a_vs, a_is, a_bs, a_bt, a_v0, a_vl, a_vi, a_i0, a_b0, a_bl, y_bind, ok_0, ok_1, ok_2, ok_3, ok_4, ok_5, ok_6, ok_i1, ok_i2, ok_i3, ok_i4, ok_i5, ok_i6, Option.getD_some, Option.getD_none, y_appB, at_0, at_1, at_2, at_3, y_chL, y_chT, not_true_eq_false, not_false_eq_true, true_or, y_pop0, F__law_gaps, lgaps_ms, lgaps_sp])
local macro_rules | `(tactic| walk_at "z6") => `(tactic| simp only [turnW, x_wC, x_wEx, x_wNil, x_wCons, x_wOp, x_wT, x_wAndT, x_wOrT, x_wNotT, x_wIte, x_wAndV, x_wOrV, x_wNotV, x_wChain, x_wTru, x_wFz, x_wTup, x_wLst, x_wStar, x_wP0, x_wP1, x_wCut, x_wNext, x_wBrk, x_wCnt, x_wNever, x_wSeq, x_wNm, y_gn, y_gc, y_tp, x_wNmG, x_wAsg, x_wExpr, x_wRet, x_wRetN, x_wIf, x_wFor, x_wComp, x_wYes, x_wiSeq, x_wiEnum, x_wiRange1, x_wiRange2, y_par, y_al0, y_alC, y_app, x_wDisp, x_wDNew, x_wDNewT, x_wCall, x_wiZip, x_tmp, x_fs0, x_fs1, y_add, y_addS, y_addL, y_addT, y_sub, y_mul, y_rep, y_div, y_mod, y_pow, y_eq, y_eqS, y_eqL, y_eqT, y_ne, y_neS, y_neL, y_neT, y_lt, y_le, y_gt, y_ge, y_isN, y_notN, y_nNone, y_nInt, y_nStr, y_nTup, y_nLst, y_lenL, y_lenT, y_lenS, y_abs, y_max, y_min, y_int, y_intB, y_tupL, y_tupT, y_lstL, y_lstT, y_repr, y_neg, y_ixL, y_ixT, y_cutL, y_cutT, y_rev, y_starT, y_starL, y_starKT, y_starKL, y_itT, y_itKT, y_plain, y_itS, y_itKS, y_var, y_own, y_mv, y_seen, y_seenL, y_fetS, y_sl, y_tm0, y_tmS, y_tmI, y_tmT, y_tmX, y_tmN, y_tn0, y_tnC, y_mapS, y_io0, y_ioV, y_ioB, io_ex, y_nx, y_rt, y_fit0, y_fitT, y_fitN, y_fitX, y_fitS, y_setE0, y_setE1, y_pl, y_un, y_put, y_pop1, List.getElem?_cons_zero, List.getElem?_cons_succ, List.set_cons_zero, List.set_cons_succ, Option.some.injEq, PyData.int.injEq, PyData.bool.injEq, PyData.tuple.injEq, PyData.list.injEq, Prod.mk.injEq, Md.own.injEq, exists_eq_left', exists_eq_left, exists_eq', exists_eq, true_and, and_true, and_self, List.length_cons, List.length_nil, wipeE, restE, decide_eq_true_eq, Bool.not_eq_true', decide_eq_false_iff_not, Nat.reduceAdd, Nat.reduceLT, Nat.reduceLeDiff, Nat.zero_le, Nat.le_refl, waOf, List.map_cons, List.map_nil, Nat.zero_add, List.nil_append, Nat.lt_add_one, y_lfI, y_lfS, y_lfT, y_lfN, y_lfB, or_true, Nat.reduceSub, Nat.add_one_sub_one, List.map_append, List.length_map, exists_and_left, ↓reduceIte, Nat.lt_irrefl, Nat.reduceLT, y_po0, y_poS, y_poN, y_ou0, y_ouI, y_ouV, y_ouB, Bool.true_eq_false, Bool.false_eq_true, reduceCtorEq, a_nil, a_cons, a_vt, a_vs, a_is, a_bs, a_bt, a_v0, a_vl, a_vi, a_i0, a_b0, a_bl, y_bind, ok_0, ok_1, ok_2, ok_3, ok_4, ok_5, ok_6, ok_i1, ok_i2, ok_i3, ok_i4, ok_i5, ok_i6, Option.getD_some, Option.getD_none, y_appB, at_0, at_1, at_2, at_3, y_chL, y_chT, not_true_eq_false, not_false_eq_true, true_or, y_pop0])
theorem law__law_layers_cost (ds : List D) (R : Nat → D → List D → Prop) (h : F__law_layers_cost.sp ds R) : q__law_layers_cost (entE [.val, .val] ds ++ List.replicate 4 none) (endK [.val, .val] R) := by
  obtain ⟨needs, b, rfl, hl, hx, hR⟩ := h
  have szl : sizeLine = 16777216 := sizeLine_eq
  unfold q__law_layers_cost
  show (wSeq _ _) [some (.own 0, .tuple (needs.map .int)), some (.own 0, .int b), none, none, none, none] _
  refine seq_mid (fun e => e = [some (.own 0, .tuple (needs.map .int)), some (.own 0, .int b), some (.own 0, .int needs.sum), none, none, none]) (fun V hV => ?_) ?_
  · walk_at "z9"
    exact hV _ rfl
  rintro e rfl
  refine seq_mid (fun e => ∃ x3 x4 x5, e = [some (.own 0, .tuple (needs.map .int)), some (.own 0, .int b), some (.own 0, .int (layersCost needs b)), x3, x4, x5]) (fun V hV => ?_) ?_
  · walk_at "z5"
    refine ⟨by omega, by omega, ?_⟩
    rw [show [PyData.int 0] ++ needs.map PyData.int = (0 :: needs).map .int from rfl, y_max1]
    refine ⟨by decide, by simp, fun m hm hy => ?_⟩
    have m0 : 0 ≤ m := hy 0 List.mem_cons_self
    have m1 : m ≤ 1000000 := by
      rcases List.mem_cons.mp hm with e | e
      · omega
      · exact (hx m e).2
    have ef := fold_max hm hy m0
    walk_at "z5"
    refine ⟨⟨⟨by decide, by decide⟩, by omega, by omega⟩, by omega, ?_⟩
    have e1 : m + 1 - 1 = m := by omega
    rw [e1]
    unfold rangeL
    refine for_map (fun dn e => ∃ x3 x4 x5, e = [some (.own 0, .tuple (needs.map .int)), some (.own 0, .int b), some (.own 0, .int (needs.sum + (dn.map fun i : Nat => b + ((pairs (onI needs (1 + (i : Int)))).map fun p => min p.2 b).sum).sum)), x3, x4, x5]) ⟨none, none, none, by simp⟩ ?_ ?_
    · rintro dn i rs e hv ⟨x3, x4, x5, rfl⟩ Y hY
      unfold q__law_layers_cost_1
      walk_at "z10"
      refine ⟨needs, rfl, hl, ?_⟩
      unfold gapsD
      walk_at "z5"
      generalize hS : needs.sum + (dn.map fun i : Nat => b + ((pairs (onI needs (1 + (i : Int)))).map fun p => min p.2 b).sum).sum = S
      refine comp_map (fun p : Int × Int => PyData.int (min p.2 b)) (fun e => e = [some (.own 0, .tuple (needs.map .int)), some (.own 0, .int b), some (.own 0, .int S), some (.own 0, .int (1 + (i : Int))), none, none]) rfl ?_ ?_
      · rintro p hp e rfl V hV
        unfold gapD
        walk_at "z6"
        exact hV _ rfl
      · rintro e rfl
        have em : (pairs (onI needs (1 + (i : Int)))).map (fun p : Int × Int => PyData.int (min p.2 b)) = ((pairs (onI needs (1 + (i : Int)))).map fun p => min p.2 b).map PyData.int := by rw [List.map_map]; rfl
        rw [em, y_sumL]
        refine ⟨by decide, ?_⟩
        walk_at "z5"
        have es : S + b + ((pairs (onI needs (1 + (i : Int)))).map fun p => min p.2 b).sum = needs.sum + ((dn ++ [i]).map fun i : Nat => b + ((pairs (onI needs (1 + (i : Int)))).map fun p => min p.2 b).sum).sum := by
          rw [← hS, List.map_append, List.sum_append]
          simp [Int.add_assoc]
        rw [es]
        exact hY _ ⟨_, _, _, rfl⟩
    · rintro e ⟨x3, x4, x5, rfl⟩
      refine hV _ ⟨x3, x4, x5, ?_⟩
      unfold layersCost
      rw [ef]
  · rintro e ⟨x3, x4, x5, rfl⟩
    walk_at "z5"
    exact hR
/-! ### bounds -/
theorem upTo_bd {f : Int → Int} {low c : Int} : ∀ {n : Nat}, (∀ k, 0 ≤ f k ∧ f k ≤ c) → 0 ≤ upTo f low n ∧ upTo f low n ≤ n * c
  | 0, _ => by simp [upTo]
  | n + 1, h => by
    rw [upTo_add]
    have h1 := upTo_bd (low := low) (n := n) h
    have h2 : upTo f (low + n) 1 = f (low + n + 1) := by simp [upTo]
    have h3 := h (low + n + 1)
    rw [h2]
    push_cast
    rw [Int.add_mul, Int.one_mul]
    omega
theorem sum_bd {c : Int} : ∀ {l : List Int}, (∀ x ∈ l, 0 ≤ x ∧ x ≤ c) → 0 ≤ l.sum ∧ l.sum ≤ l.length * c
  | [], _ => by simp
  | a :: r, h => by
    have h1 := sum_bd (l := r) fun x hx => h x (List.mem_cons_of_mem _ hx)
    have h2 := h a List.mem_cons_self
    rw [List.sum_cons, List.length_cons]
    push_cast
    rw [Int.add_mul, Int.one_mul]
    omega
theorem costP_bd {row : List Int} {b k : Int} (hb : 0 ≤ b) : 0 ≤ costP row b k ∧ costP row b k ≤ row.length * b := by
  unfold costP
  have h := sum_bd (c := b) (l := (pairs (onI row k)).map fun p => min p.2 b) (by
    intro x hx
    obtain ⟨p, hp, rfl⟩ := List.mem_map.mp hx
    have := pairs_mem (n := row.length) (fun x hx => onI_mem hx) hp
    omega)
  rw [List.length_map] at h
  have h2 := Nat.le_trans (pairs_le (onI row k)) (onI_le row k)
  have h3 : ((pairs (onI row k)).length : Int) * b ≤ row.length * b := Int.mul_le_mul_of_nonneg_right (by omega) hb
  omega
theorem topN_le' {row : List Int} {c : Int} (h0 : 0 ≤ c) (h : ∀ x ∈ row, x ≤ c) : topN row ≤ c := by
  obtain ⟨h1, h2, h3⟩ := fold_all (0 :: row) 0
  rcases h3 with h3 | h3
  · unfold topN; omega
  · rcases List.mem_cons.mp h3 with e | e
    · unfold topN; omega
    · exact h _ e
theorem layers_bd {row : List Int} {b c : Int} (hb : 0 ≤ b) (hc : 0 ≤ c) (h : ∀ x ∈ row, 0 ≤ x ∧ x ≤ c) : 0 ≤ layersCost row b ∧ layersCost row b ≤ row.length * c + c * (b + row.length * b) := by
  rw [cost_eq]
  have h1 := sum_bd h
  have h2 := upTo_bd (f := fun k => b + costP row b k) (low := 0) (c := b + row.length * b) (n := (topN row).toNat) (fun k => by
    have := costP_bd (row := row) (k := k) hb
    omega)
  have h3 := topN_le' hc fun x hx => (h x hx).2
  have h4 : ((topN row).toNat : Int) * (b + row.length * b) ≤ c * (b + row.length * b) := Int.mul_le_mul_of_nonneg_right (by omega) (by
    have : 0 ≤ (row.length : Int) * b := Int.mul_nonneg (by omega) hb
    omega)
  omega
end Sq
/-! Sq28: sorted, all, extend -/
namespace Sq
open PySem PySem.Spec PyProof.Rows L2
/-! ### sorted of tuples of ints -/
def tupI (r : List Int) : D := .tuple (r.map .int)
theorem dataLe_tup {β : Type} (x : β → List Int) : PySem.W.dataLe false (fun b => tupI (x b)) = fun p q => decide (x p ≤ x q) := by
  funext p q
  show (!PySem.W.dataLt (.tuple ((x q).map .int)) (.tuple ((x p).map .int))) = _
  rw [PySem.W.dataLt_tuple]
  show (!PySem.W.rowLt ((x q).map .int) ((x p).map .int)) = _
  rw [PySem.W.dataLt_ints]
  by_cases h : x q < x p
  · have h' : ¬ x p ≤ x q := fun r => List.not_lt.mpr r h
    simp [h, h']
  · have h' : x p ≤ x q := List.not_lt.mp h
    simp [h, h']
def rSortedP (K : Frag) : List V → Hp → VK → Prop := fun vs H Q => ∃ (a : Addr) (bs : List (V × List Int)), vs = [V.ref a] ∧ SqL K H a (bs.map (·.1)) ∧ DpAll K H (bs.map (·.1)) (bs.map fun b => tupI b.2) ∧ (∀ b ∈ bs, b.2 ≠ []) ∧
  ∀ (zs : List (V × List Int)) (p : Addr), zs.Perm bs → zs.Pairwise (fun p q => p.2 ≤ q.2) → H p = none → Q (.ref p) (upd H p (.lst (zs.map (·.1))))
section
variable {X : Cx}
theorem each_of : ∀ {bs : List (V × List Int)} {us : List Value}, Vals (bs.map (·.1)) us → PySem.W.EachIs (fun v b => RelV b.1 v) us bs
  | [], _, r => by cases r; exact .nil
  | b :: bs, _, r => by
    cases r with
    | cons h r => exact .cons h (each_of r)
theorem of_each : ∀ {bs : List (V × List Int)} {us : List Value}, PySem.W.EachIs (fun v b => RelV b.1 v) us bs → Vals (bs.map (·.1)) us
  | _, _, .nil => .nil
  | _, _, .cons h r => .cons h (of_each r)
theorem each_reads {pins : List (Addr × Obj)} {σ : L2.St} {H : Hp} {s : Shared} (I : Inv X pins σ H s) : ∀ {bs : List (V × List Int)} {us : List Value}, Vals (bs.map (·.1)) us → DpAll X.K H (bs.map (·.1)) (bs.map fun b => tupI b.2) →
    PySem.W.EachIs (fun v b => ∃ as, Reads s.heap v (tupI b.2) as) us bs
  | [], _, r, _ => by cases r; exact .nil
  | b :: bs, _, r, d => by
    cases r with
    | cons h r =>
      cases d with
      | cons hd d => exact .cons (Dp.reads I _ _ _ hd h) (each_reads I r d)
theorem tupI_depth (r : List Int) : (tupI r).depth ≤ 1 := by
  simp only [tupI, PyData.depth]
  rw [PySem.W.depth_ints]
  omega
theorem le_trans_l {a b c : List Int} (h : a ≤ b) (k : b ≤ c) : a ≤ c := List.le_trans h k
theorem cr_sortedP (hu : X.A.units + 64 < cLine) : CallR X (.builtin "sorted") (rSortedP X.K) := by
  intro pins s σ H vs us Q I r h
  obtain ⟨a, bs, rfl, hs, hd, hne, q⟩ := h
  obtain ⟨its, rv, hl, hz⟩ := I.list hs
  rw [Vals.ref1 r]
  have hz' : bs.length ≤ sizeLine := by rw [List.length_map] at hz; exact hz
  refine PySem.W.sorted_data (enc := fun b : V × List Int => tupI b.2) hl.isList (each_of rv) (each_reads I rv hd) ?_ ?_ hz' (fun b _ => by have := tupI_depth b.2; omega) fun out ho eo => ?_
  · exact PySem.W.AllAlike.of fun b b' => PySem.W.alike_ints _ _
  · refine .inl fun d hd' => ?_
    obtain ⟨b, hb, rfl⟩ := List.mem_map.mp hd'
    have := hne b hb
    cases hb2 : b.2 with
    | nil => exact absurd hb2 this
    | cons x r => exact ⟨.int x, r.map .int, by simp only [tupI, hb2, List.map_cons]⟩
  · obtain ⟨ep, he'⟩ := PyProof.Rows.sortedAll_at s.heap its out.toArray
    rw [dataLe_tup] at eo
    have pm := List.mergeSort_perm bs (fun p q : V × List Int => decide (p.2 ≤ q.2))
    have pw : (bs.mergeSort fun p q => decide (p.2 ≤ q.2)).Pairwise fun p q => p.2 ≤ q.2 := by
      have := List.pairwise_mergeSort (le := fun p q : V × List Int => decide (p.2 ≤ q.2)) (fun a b c h k => decide_eq_true (le_trans_l (of_decide_eq_true h) (of_decide_eq_true k)))
        (fun a b => by
          rcases List.le_total a.2 b.2 with h | h
          · simp [h]
          · simp [h]) bs
      exact this.imp fun h => of_decide_eq_true h
    have hlen : ((bs.mergeSort fun p q => decide (p.2 ≤ q.2)).map (·.1)).length ≤ sizeLine := by rw [List.length_map, pm.length_eq]; exact hz'
    exact ⟨.ref _, upd H (s.heap.objs.size + 1) (.lst ((bs.mergeSort fun p q => decide (p.2 ≤ q.2)).map (·.1))), I.laid (t' := s.toks) (fun _ _ => PyProof.Rows.sortedAll_old) (Nat.le_succ _) ⟨hlen, out, ep, of_each eo, he'⟩, rfl, q _ _ pm pw (I.hok.fresh (Nat.le_succ _))⟩
/-- rows of ints -/
def asRows : List D → Option (List (List Int))
  | [] => some []
  | .tuple r :: ds => do
    let x ← asInts r
    let xs ← asRows ds
    pure (x :: xs)
  | _ => none
theorem asRows_eq : ∀ {ds : List D} {rs : List (List Int)}, asRows ds = some rs → ds = rs.map tupI
  | [], rs, h => by cases h; rfl
  | .tuple r :: ds, rs, h => by
    simp only [asRows, Option.pure_def, Option.bind_eq_bind, Option.bind_eq_some_iff] at h
    obtain ⟨x, h1, xs, h2, h3⟩ := h
    cases h3
    rw [asInts_eq h1, asRows_eq h2]
    rfl
  | .none :: _, _, h => by cases h
  | .bool _ :: _, _, h => by cases h
  | .str _ :: _, _, h => by cases h
  | .list _ :: _, _, h => by cases h
  | .int _ :: _, _, h => by cases h
  | .dict _ :: _, _, h => by cases h
theorem asRows_map : ∀ rs : List (List Int), asRows (rs.map tupI) = some rs
  | [] => rfl
  | r :: rs => by
    simp only [List.map_cons, tupI, asRows, asInts_map, Option.pure_def, Option.bind_eq_bind, Option.bind_some]
    have := asRows_map rs
    rw [this]
    rfl
def oSorted : OW
  | [(n, .list xs)], Q => n ≤ 1 ∧ ((∃ ns, asInts xs = some ns ∧ ∀ ns' : List Int, ns'.Perm ns → ns'.Pairwise (· ≤ ·) → Q 1 (.list (ns'.map .int))) ∨
      ∃ rs, asRows xs = some rs ∧ (∀ r ∈ rs, r ≠ []) ∧ ∀ rs' : List (List Int), rs'.Perm rs → rs'.Pairwise (· ≤ ·) → Q 1 (.list (rs'.map tupI)))
  | _, _ => False
theorem zip_fst {α β : Type} : ∀ {xs : List α} {ys : List β}, xs.length = ys.length → (xs.zip ys).map (·.1) = xs
  | [], _, _ => by simp
  | x :: xs, [], h => by simp at h
  | x :: xs, y :: ys, h => by simp at h; simp [zip_fst h]
theorem zip_snd {α β : Type} : ∀ {xs : List α} {ys : List β}, xs.length = ys.length → (xs.zip ys).map (·.2) = ys
  | [], [], _ => by simp
  | [], _ :: _, h => by simp at h
  | x :: xs, [], h => by simp at h
  | x :: xs, y :: ys, h => by simp at h; simp [zip_snd h]
theorem RepFs.pair {K : Frag} {G H : Hp} : ∀ {bs : List (V × List Int)}, (∀ b ∈ bs, RepF K G H b.1 (tupI b.2)) → RepFs K G H (bs.map (·.1)) (bs.map fun b => tupI b.2)
  | [], _ => .nil
  | b :: bs, h => .cons (h b List.mem_cons_self) (RepFs.pair fun x hx => h x (List.mem_cons_of_mem _ hx))
theorem RepFs.unpair {K : Frag} {G H : Hp} : ∀ {bs : List (V × List Int)}, RepFs K G H (bs.map (·.1)) (bs.map fun b => tupI b.2) → ∀ b ∈ bs, RepF K G H b.1 (tupI b.2)
  | [], _, b, h => absurd h (by simp)
  | c :: bs, r, b, h => by
    cases r with
    | cons h1 r =>
      rcases List.mem_cons.mp h with e | h
      · subst e; exact h1
      · exact RepFs.unpair r b h
theorem layAll_tups (rs : List (List Int)) : PyData.canLayAll0 (rs.map tupI) = true := by
  induction rs with
  | nil => rfl
  | cons r rs ih =>
    simp only [List.map_cons, PyData.canLayAll0, Bool.and_eq_true]
    refine ⟨?_, ih⟩
    show PyData.canLayAll0 (r.map .int) = true
    induction r with
    | nil => rfl
    | cons x r ih2 => simp only [List.map_cons, PyData.canLayAll0, Bool.and_eq_true]; exact ⟨rfl, ih2⟩
theorem s_sorted (hu : X.A.units + 64 < cLine) : CallS X (.builtin "sorted") oSorted := by
  refine ⟨_, CallR.or cr_sortedI (cr_sortedP hu), fun G H xs vs P Q g r h q => ?_⟩
  unfold oSorted at h
  split at h
  · obtain ⟨v, rfl, x⟩ := r.one
    obtain ⟨p, ws, rfl, h1, z, rs⟩ := x.lst g h.1
    rcases h.2 with ⟨ns, e, h⟩ | ⟨rows, e, hne, h⟩
    · rw [asInts_eq e] at rs
      have := rs.ints
      subst this
      exact .inl ⟨p, ns, rfl, h1, fun ns' p' pm pw np => q _ _ _ _ (h ns' pm pw) (.newL np (by rw [List.length_map, pm.length_eq]; rw [List.length_map] at z; exact z) (RepFs.ofInts ns'))⟩
    · rw [asRows_eq e] at rs
      have hl : ws.length = rows.length := by rw [rs.length, List.length_map]
      have e1 := zip_fst hl
      have e2 : (ws.zip rows).map (fun b => tupI b.2) = rows.map tupI := by
        have := congrArg (List.map tupI) (zip_snd hl)
        rw [List.map_map] at this
        exact this
      refine .inr ⟨p, ws.zip rows, rfl, by rw [e1]; exact h1, ?_, ?_, ?_⟩
      · rw [e1, e2]
        exact RepFs.dp g rs (layAll_tups rows)
      · intro b hb
        exact hne _ (List.of_mem_zip hb).2
      · intro zs p' pm pw np
        have rr : RepFs X.K G H (zs.map (·.1)) (zs.map fun b => tupI b.2) := by
          refine RepFs.pair fun b hb => ?_
          rw [← e1, ← e2] at rs
          exact RepFs.unpair rs b (pm.mem_iff.mp hb)
        have pm2 : (zs.map (·.2)).Perm rows := by
          have := pm.map (fun b : V × List Int => b.2)
          rw [zip_snd hl] at this
          exact this
        have := h (zs.map (·.2)) pm2 (List.pairwise_map.mpr pw)
        refine q _ _ _ _ this ?_
        rw [List.map_map]
        refine .newL np (by rw [List.length_map, pm.length_eq, List.length_zip]; omega) rr
  · exact h.elim
theorem boot_sorted : bootBuiltins "sorted" = some (.builtin "sorted") := by decide +kernel
/-! ### all, any -/
def asBools : List D → Option (List Bool)
  | [] => some []
  | .bool b :: ds => (asBools ds).map (b :: ·)
  | _ => none
theorem asBools_map : ∀ ns : List Bool, asBools (ns.map .bool) = some ns
  | [] => rfl
  | b :: r => by simp [asBools, asBools_map r]
def oAll : OW
  | [(n, .list xs)], Q => n ≤ 1 ∧ ∃ bs, asBools xs = some bs ∧ Q 0 (.bool (bs.all id))
  | _, _ => False
def oAny : OW
  | [(n, .list xs)], Q => n ≤ 1 ∧ ∃ bs, asBools xs = some bs ∧ Q 0 (.bool (bs.any id))
  | _, _ => False
end
section
variable {n : Nat} {Q : Nat → D → Prop} {ns : List Int} {rs : List (List Int)} {bs : List Bool}
theorem y_sortR : (n ≤ 1 ∧ (∀ r ∈ rs, r ≠ []) ∧ ∀ rs' : List (List Int), rs'.Perm rs → rs'.Pairwise (· ≤ ·) → Q 1 (.list (rs'.map tupI))) → oSorted [(n, .list (rs.map tupI))] Q := fun h => ⟨h.1, .inr ⟨rs, asRows_map rs, h.2.1, h.2.2⟩⟩
theorem y_all : oAll [(n, .list (bs.map .bool))] Q = (n ≤ 1 ∧ Q 0 (.bool (bs.all id))) := by
  show (n ≤ 1 ∧ ∃ ms, asBools (bs.map .bool) = some ms ∧ Q 0 (.bool (ms.all id))) = _
  simp only [asBools_map, Option.some.injEq, exists_eq_left']
theorem y_any : oAny [(n, .list (bs.map .bool))] Q = (n ≤ 1 ∧ Q 0 (.bool (bs.any id))) := by
  show (n ≤ 1 ∧ ∃ ms, asBools (bs.map .bool) = some ms ∧ Q 0 (.bool (ms.any id))) = _
  simp only [asBools_map, Option.some.injEq, exists_eq_left']
end
end Sq
/-! Sq29: extend -/
namespace Sq
open PySem PySem.Spec PyProof.Rows L2
section
variable {K : Frag} {G H G1 H1 : Hp} {m n : Nat} {u v : V} {c z d : D} {fc fz fp : List Addr}
theorem ROs.append {O : Addr → HO → Prop} {n : Nat} {ws : List V} {es : List D} {g : List Addr} : ∀ {vs : List V} {ds : List D} {fp : List Addr}, ROs K G H O n vs ds fp → ROs K G H O n ws es g → ROs K G H O n (vs ++ ws) (ds ++ es) (fp ++ g)
  | _, _, _, .nil, r => r
  | _, _, _, .cons h r, r' => by
    rw [List.append_assoc]
    exact .cons h (ROs.append r r')
theorem obj_ext {xs ys : List D} (r : RepO K G H (At H) (m + 1) u (.list xs) fc) (rz : RepO K G H (At H) (m + 1) v (.list ys) fz) (nd : (fc ++ fz).Nodup) (hl : xs.length + ys.length ≤ sizeLine) :
    ∃ p vs b ws fq, u = .ref p ∧ H p = some (.lst vs) ∧ p ∈ fc ∧ v = .ref b ∧ H b = some (.lst ws) ∧ vs.length + ws.length ≤ sizeLine ∧ (∀ q ∈ fq, q ∈ fz) ∧ (fc ++ fq).Nodup ∧ RepO K G (upd H p (.lst (vs ++ ws))) (At (upd H p (.lst (vs ++ ws)))) (m + 1) u (.list (xs ++ ys)) (fc ++ fq) := by
  obtain ⟨nd1, nd2, nd3⟩ := List.nodup_append.mp nd
  cases r with
  | leaf l r => cases l
  | @lst _ p vs ds fp h1 hz rs =>
    cases rz with
    | leaf l r => cases l
    | @lst _ b ws es fq h2 hz2 rs2 =>
      rw [List.nodup_cons] at nd1 nd2
      have hlen := ROs.length rs
      have hlen2 := ROs.length rs2
      have nfq : ∀ q ∈ fp, q ≠ p := fun q hq e => by subst e; exact nd1.1 hq
      have nzq : ∀ q ∈ fq, q ≠ p := fun q hq e => by subst e; exact nd3 q List.mem_cons_self q (List.mem_cons_of_mem _ hq) rfl
      have tp : Tups H (upd H p (.lst (vs ++ ws))) := tups_upd h1 (.inl ⟨_, rfl⟩)
      refine ⟨p, vs, b, ws, fq, rfl, h1, List.mem_cons_self, rfl, h2, by omega, fun q hq => List.mem_cons_of_mem _ hq, List.nodup_append.mpr ⟨List.nodup_cons.mpr nd1, nd2.2, fun x hx y hy => nd3 x hx y (List.mem_cons_of_mem _ hy)⟩, ?_⟩
      rw [List.cons_append]
      refine .lst upd_same (by rw [List.length_append]; omega) ?_
      exact ROs.append (rs.mono tp (Le.refl G) (fun q hq o e => upd_kp e (nfq q hq)) fun q hq o e => upd_kp e (nfq q hq)) (rs2.mono tp (Le.refl G) (fun q hq o e => upd_kp e (nzq q hq)) fun q hq o e => upd_kp e (nzq q hq))
end
section
variable {X : Cx} {e : Expr} {pos : Pos}
/-- slot.extend(w) -/
def wExt (i : Nat) (w : WE) : WE := fun env Q => (∃ n xs, env[i]? = some (some (.own n, .list xs))) ∧ w env fun k z e1 => ∃ m xs ys, e1[i]? = some (some (.own (m + 1), .list xs)) ∧ k = m + 1 ∧ z = .list ys ∧ xs.length + ys.length ≤ sizeLine ∧ Q 0 .none (e1.set i (some (.own (m + 1), .list (xs ++ ys))))
theorem ext_rd {i : Nat} {w : WE} {σ : L2.St} {H : Hp} {Q : VK} (h : rdE X.K (wExt i w) σ H Q) :
    tBM X.K "list" rExtend (tVar i) (tCons (rdE X.K w) tNil) σ H Q := by
  obtain ⟨G, L, env, f, P, s, ⟨⟨n0, xs0, e0⟩, h⟩, q⟩ := h
  obtain ⟨v0, ev, r0⟩ := s.slot i _ _ e0
  obtain ⟨a0, vs0, e1, hq, _⟩ := (RepO.x r0).lstAny s.gh
  subst e1
  refine ⟨_, ev, .inl ⟨rfl, vs0, hq⟩, G, L, env, f, _, s, h, ?_⟩
  rintro k z e1 ⟨m, xs, ys, e2, rfl, rfl, hl, hQ⟩ v G1 H1 f1 fv p r
  obtain ⟨v1, ev1, r1⟩ := p.sr.slot i _ _ e2
  rw [ev] at ev1; cases ev1
  have po := p.out e2
  obtain ⟨a, vs, b, ws, fq, ea, h1, hm, eb, h2, hlen, hsub, nd2, r2⟩ := obj_ext r1 r po.nd hl
  cases ea
  subst eb
  refine ⟨_, b, vs, ws, rfl, rfl, h1, h2, hlen, ?_⟩
  have mu : ∀ q ∈ f1 i ++ fv, ∃ o, H1 q = some o ∧ Mutb o := fun q hq => by
    rcases List.mem_append.mp hq with hq | hq
    · exact RepO.mutb r1 q hq
    · exact RepO.mutb r q hq
  have w := Post.wb (fv2 := []) (i := i) po (fun q o e hn => upd_kp (o' := .lst (vs ++ ws)) e fun e => hn (by rw [e]; exact List.mem_append_left _ hm)) (fun q => upd_dm h1) mu (by rw [List.append_nil]; exact nd2) (fun q hq => by
    rw [List.append_nil] at hq
    rcases List.mem_append.mp hq with z | z
    · exact List.mem_append_left _ z
    · exact List.mem_append_right _ (hsub q z)) (by rw [List.length_set]; exact lt_of_get e2) r2 ev
  rw [set_twice] at w
  exact q 0 .none _ hQ .non G1 _ _ [] w (.frz .non)
theorem snd_ext {o : Expr} {apos cpos : Pos} {i : Nat} {w : WE} (ho : PE X o (tVar i)) (he : PE X e (rdE X.K w))
    (hbase : attributeBase o (Str.ofString "extend") X.env (eval o X.env) = eval o X.env)
    (hfew : ((backTo cpos (starEach [e] X.env)).all (fun x => !x.1) && (backToKw cpos (keywordEach [] X.env)).all (fun x => x.1.isSome) && decide (([e] : List Expr).length + ([] : List Keyword).length + (if ([] : List Keyword).isEmpty then 0 else 1) < 30)) = true)
    (hline : (apos.endLine == cpos.line) = true) (hs : starEach [e] X.env = (false, eval e X.env) :: starEach [] X.env) (hplain : (backTo cpos (starEach [] X.env)).any (·.1) = false) :
    PE X (.Call (.Attribute o (Str.ofString "extend") apos) [e] [] cpos) (rdE X.K (wExt i w)) :=
  pe_imp (pe_bm PySem.F.plainAttrs_list PySem.F.slot_list_extend PySem.F.type_list_extend mt_extend ho (pa_cons he pa_nil hs) hbase hfew hline hs hplain) fun σ H Q h => ext_rd h
end
section
variable {env : En} {Q : QE}
theorem y_ext {k : Nat} {w : WE} {R : QE} : wExt k w env R = (ownAt env[k]? (fun _ d => ∃ xs, d = .list xs) ∧ w env fun a z e1 => ownAt e1[k]? fun n d => ∃ xs ys, 0 < n ∧ a = n ∧ d = .list xs ∧ z = .list ys ∧ xs.length + ys.length ≤ sizeLine ∧ R 0 .none (e1.set k (some (.own n, .list (xs ++ ys))))) := by
  unfold wExt
  congr 1
  · apply propext
    constructor
    · rintro ⟨n, xs, e⟩; rw [e]; exact ⟨xs, rfl⟩
    · intro h
      cases e : env[k]? with
      | none => rw [e] at h; exact h.elim
      | some s =>
        rw [e] at h
        match s, h with
        | some (.own n, d), ⟨xs, q⟩ => subst q; exact ⟨n, xs, rfl⟩
  · congr 1
    funext a z e1
    apply propext
    constructor
    · rintro ⟨m, xs, ys, e, rfl, rfl, h⟩
      rw [e]
      exact ⟨xs, ys, Nat.succ_pos m, rfl, rfl, rfl, h⟩
    · intro h
      cases e : e1[k]? with
      | none => rw [e] at h; exact h.elim
      | some s =>
        rw [e] at h
        match s, h with
        | some (.own (n + 1), d), h =>
          obtain ⟨xs, ys, _, rfl, rfl, rfl, hh1, hh2⟩ := h
          exact ⟨n, xs, ys, rfl, rfl, rfl, hh1, hh2⟩
        | some (.own 0, d), h =>
          obtain ⟨xs, ys, q, _⟩ := h
          exact absurd q (by decide)
end
end Sq
/-! Sq30: valleys -/
namespace Sq
open PySem PySem.Spec PyProof.Rows L2
/-! ### the greatest need between two ticks -/
def mxN (needs : List Int) (a : Int) : Nat → Int
  | 0 => 0
  | n + 1 => max (mxN needs a n) (nAt needs (a + 1 + n))
def mx (needs : List Int) (a t : Int) : Int := mxN needs a (t - a - 1).toNat
theorem mx_succ {needs : List Int} {a t : Int} (h : a < t) : mx needs a (t + 1) = max (mx needs a t) (nAt needs t) := by
  unfold mx
  rw [show (t + 1 - a - 1).toNat = (t - a - 1).toNat + 1 by omega]
  show max _ (nAt needs (a + 1 + ((t - a - 1).toNat : Nat))) = _
  rw [show a + 1 + (((t - a - 1).toNat : Nat) : Int) = t by omega]
theorem mx_self {needs : List Int} {t : Int} : mx needs t (t + 1) = 0 := by
  unfold mx
  rw [show (t + 1 - t - 1).toNat = 0 by omega]
  rfl
theorem mxN_nn {needs : List Int} {a : Int} : ∀ n, 0 ≤ mxN needs a n
  | 0 => Int.le_refl _
  | n + 1 => by have := mxN_nn (needs := needs) (a := a) n; simp only [mxN]; omega
theorem mx_nn {needs : List Int} {a t : Int} : 0 ≤ mx needs a t := mxN_nn _
theorem mxN_lt {needs : List Int} {a k : Int} (h0 : 0 < k) : ∀ n, mxN needs a n < k ↔ ∀ j, a < j → j < a + 1 + n → nAt needs j < k
  | 0 => ⟨fun _ j h1 h2 => by omega, fun _ => h0⟩
  | n + 1 => by
    have ih := mxN_lt (needs := needs) (a := a) h0 n
    simp only [mxN]
    constructor
    · intro h j h1 h2
      by_cases e : j = a + 1 + n
      · subst e; omega
      · exact ih.mp (by omega) j h1 (by push_cast at h2; omega)
    · intro h
      have h1 := ih.mpr fun j h1 h2 => h j h1 (by push_cast; omega)
      have h2 := h (a + 1 + n) (by omega) (by push_cast; omega)
      omega
theorem mx_lt {needs : List Int} {a t k : Int} (h0 : 0 < k) (h : a < t) : mx needs a t < k ↔ ∀ j, a < j → j < t → nAt needs j < k := by
  unfold mx
  rw [mxN_lt h0]
  have e : a + 1 + (((t - a - 1).toNat : Nat) : Int) = t := by omega
  rw [e]
/-! ### the stack -/
def Ch (needs : List Int) (t : Int) : Int → List Int → Prop
  | _, [] => True
  | low, a :: r => low = mx needs a t ∧ Ch needs t (max low (nAt needs a)) r
theorem Ch_ge {needs : List Int} {t : Int} : ∀ {low : Int} {st : List Int}, Ch needs t low st → ∀ a ∈ st, low ≤ mx needs a t
  | low, a :: r, ⟨h1, h2⟩, b, hb => by
    rcases List.mem_cons.mp hb with e | hb
    · subst e; omega
    · have := Ch_ge h2 b hb
      omega
def valOf (needs : List Int) (a t : Int) : Int × Int × Int × Int := (a + 1, t - a - 1, mx needs a t, min (nAt needs a) (nAt needs t))
def isVal (needs : List Int) (a t : Int) : Prop := a + 1 < t ∧ mx needs a t < min (nAt needs a) (nAt needs t)
theorem closed_val {needs : List Int} {t : Int} : ∀ {low : Int} {st : List Int}, Ch needs t low st → ∀ v, v ∈ (closed needs t (nAt needs t) low st).1 ↔ ∃ a ∈ st, isVal needs a t ∧ v = valOf needs a t
  | low, [], _, v => by simp [closed]
  | low, a :: r, ⟨h1, h2⟩, v => by
    have ih := closed_val h2 v
    simp only [closed]
    rw [show needs.getD a.toNat 0 = nAt needs a from rfl]
    have first : v ∈ (if a + 1 < t ∧ low < min (nAt needs a) (nAt needs t) then [(a + 1, t - a - 1, low, min (nAt needs a) (nAt needs t))] else []) ↔ isVal needs a t ∧ v = valOf needs a t := by
      unfold isVal valOf
      rw [← h1]
      split
      · rename_i c; simp [c]
      · rename_i c; simp [c]
    split
    · rename_i c
      rw [first]
      constructor
      · exact fun h => ⟨a, List.mem_cons_self, h⟩
      · rintro ⟨b, hb, h3, h4⟩
        rcases List.mem_cons.mp hb with e | hb
        · subst e; exact ⟨h3, h4⟩
        · have := Ch_ge h2 b hb
          have := h3.2
          omega
    · rename_i c
      rw [List.mem_append, first, ih]
      constructor
      · rintro (h | ⟨b, hb, h⟩)
        · exact ⟨a, List.mem_cons_self, h⟩
        · exact ⟨b, List.mem_cons_of_mem _ hb, h⟩
      · rintro ⟨b, hb, h⟩
        rcases List.mem_cons.mp hb with e | hb
        · subst e; exact .inl h
        · exact .inr ⟨b, hb, h⟩
theorem closed_sub {needs : List Int} {t x : Int} : ∀ {low : Int} {st : List Int}, ((closed needs t x low st).1.map (·.1)).Sublist (st.map (· + 1))
  | low, [] => .slnil
  | low, a :: r => by
    simp only [closed]
    generalize needs.getD a.toNat 0 = n
    have ih := closed_sub (needs := needs) (t := t) (x := x) (low := max low n) (st := r)
    split
    · split
      · exact (List.nil_sublist _).cons₂ _
      · exact List.nil_sublist _
    · split
      · exact ih.cons₂ _
      · exact ih.cons _
theorem closed_suf {needs : List Int} {t x : Int} : ∀ {low : Int} {st : List Int}, ∃ p, st = p ++ (closed needs t x low st).2 ∧ (∀ a ∈ p, nAt needs a ≤ x) ∧ ((closed needs t x low st).2 ≠ [] → ∃ a r, (closed needs t x low st).2 = a :: r ∧ x < nAt needs a)
  | low, [] => ⟨[], by simp [closed]⟩
  | low, a :: r => by
    simp only [closed]
    rw [show needs.getD a.toNat 0 = nAt needs a from rfl]
    obtain ⟨p, h1, h2, h3⟩ := closed_suf (needs := needs) (t := t) (x := x) (low := max low (nAt needs a)) (st := r)
    split
    · rename_i c
      exact ⟨[], rfl, by simp, fun _ => ⟨a, r, rfl, c⟩⟩
    · rename_i c
      refine ⟨a :: p, by rw [List.cons_append, ← h1], ?_, h3⟩
      intro b hb
      rcases List.mem_cons.mp hb with e | hb
      · subst e; omega
      · exact h2 b hb
/-- the chain for the next tick -/
theorem Ch_next {needs : List Int} {t : Int} : ∀ {low : Int} {st : List Int}, (∀ a ∈ st, a < t) → low ≤ nAt needs t → Ch needs t low st → Ch needs (t + 1) (nAt needs t) (closed needs t (nAt needs t) low st).2
  | low, [], _, _, _ => trivial
  | low, a :: r, hs, hl, ⟨h1, h2⟩ => by
    simp only [closed]
    rw [show needs.getD a.toNat 0 = nAt needs a from rfl]
    split
    · rename_i c
      have go : ∀ {low : Int} {st : List Int}, (∀ a ∈ st, a < t) → nAt needs t ≤ low → Ch needs t low st → Ch needs (t + 1) low st := by
        intro low st
        induction st generalizing low with
        | nil => exact fun _ _ _ => trivial
        | cons b q ih =>
          intro hq hle ⟨g1, g2⟩
          refine ⟨?_, ih (fun x hx => hq x (List.mem_cons_of_mem _ hx)) (by omega) g2⟩
          rw [mx_succ (hq b List.mem_cons_self)]
          omega
      refine ⟨?_, ?_⟩
      · rw [mx_succ (hs a List.mem_cons_self)]
        omega
      · have := go (fun x hx => hs x (List.mem_cons_of_mem _ hx)) (by omega) h2
        rw [show max (nAt needs t) (nAt needs a) = max low (nAt needs a) by omega]
        exact this
    · rename_i c
      exact Ch_next (fun x hx => hs x (List.mem_cons_of_mem _ hx)) (by omega) h2
theorem closed_len {needs : List Int} {t x : Int} : ∀ {low : Int} {st : List Int}, (closed needs t x low st).1.length + (closed needs t x low st).2.length ≤ st.length + 1
  | low, [] => by simp [closed]
  | low, a :: r => by
    simp only [closed]
    generalize needs.getD a.toNat 0 = n
    have ih := closed_len (needs := needs) (t := t) (x := x) (low := max low n) (st := r)
    split
    · split <;> simp only [List.length_cons, List.length_nil] <;> omega
    · rw [List.length_append]
      split <;> simp only [List.length_cons, List.length_nil] <;> omega
theorem closed_len' {needs : List Int} {t x : Int} {low : Int} {st : List Int} (h : st.head? = some (t - 1)) : (closed needs t x low st).1.length + (closed needs t x low st).2.length ≤ st.length := by
  cases st with
  | nil => cases h
  | cons a r =>
    simp only [List.head?_cons, Option.some.injEq] at h
    subst h
    simp only [closed]
    generalize needs.getD (t - 1).toNat 0 = n
    have := closed_len (needs := needs) (t := t) (x := x) (low := max low n) (st := r)
    rw [if_neg (show ¬(t - 1 + 1 < t ∧ low < min n x) by omega)]
    split
    · simp
    · simp only [List.nil_append, List.length_cons]; omega
/-! ### the run over a row -/
def runV (needs : List Int) : Nat → List (Int × Int × Int × Int) × List Int
  | 0 => ([], [])
  | t + 1 => let c := closed needs t (nAt needs t) 0 (runV needs t).2
    ((runV needs t).1 ++ c.1, (t : Int) :: c.2)
structure RunOk (needs : List Int) (t : Nat) : Prop where
  ch : Ch needs t 0 (runV needs t).2
  nd : (runV needs t).2.Nodup
  bd : ∀ a ∈ (runV needs t).2, 0 ≤ a ∧ a < t
  full : ∀ a : Int, 0 ≤ a → a < t → mx needs a t < nAt needs a → a ∈ (runV needs t).2
  mem : ∀ v, v ∈ (runV needs t).1 ↔ ∃ (a : Int) (u : Nat), 0 ≤ a ∧ u < t ∧ isVal needs a u ∧ v = valOf needs a u
  fnd : (runV needs t).1.Nodup
  len : (runV needs t).1.length + (runV needs t).2.length ≤ t
  hd : 0 < t → (runV needs t).2.head? = some ((t : Int) - 1)
theorem runOk {needs : List Int} (hx : ∀ a, 0 ≤ nAt needs a) : ∀ t, RunOk needs t
  | 0 => ⟨trivial, List.nodup_nil, by simp [runV], fun a h1 h2 => by omega, fun v => by simp [runV], List.nodup_nil, by simp [runV], by simp⟩
  | t + 1 => by
    have R := runOk hx t
    have cs := closed_stack needs t (nAt needs t) (low := 0) (st := (runV needs t).2)
    obtain ⟨p, p1, p2, p3⟩ := closed_suf (needs := needs) (t := t) (x := nAt needs t) (low := 0) (st := (runV needs t).2)
    have cv := closed_val R.ch
    have sub2 : (closed needs t (nAt needs t) 0 (runV needs t).2).2.Sublist (runV needs t).2 := by
      have h : (closed needs t (nAt needs t) 0 (runV needs t).2).2.Sublist (p ++ (closed needs t (nAt needs t) 0 (runV needs t).2).2) := List.sublist_append_right _ _
      rwa [← p1] at h
    refine ⟨?_, ?_, ?_, ?_, ?_, ?_, ?_, ?_⟩
    · show Ch needs ((t + 1 : Nat) : Int) 0 ((t : Int) :: (closed needs t (nAt needs t) 0 (runV needs t).2).2)
      refine ⟨?_, ?_⟩
      · push_cast; rw [mx_self]
      · have h0 := hx t
        have := Ch_next (fun a ha => (R.bd a ha).2) h0 R.ch
        rw [show max 0 (nAt needs (t : Int)) = nAt needs t by omega]
        push_cast
        exact this
    · refine List.nodup_cons.mpr ⟨fun h => ?_, sub2.nodup R.nd⟩
      have := R.bd _ (cs.1 _ h)
      omega
    · intro a ha
      rcases List.mem_cons.mp ha with e | ha
      · subst e; push_cast; omega
      · have := R.bd _ (cs.1 _ ha)
        push_cast; omega
    · intro a h0 h1 h2
      by_cases e : a = t
      · subst e; exact List.mem_cons_self
      · refine List.mem_cons_of_mem _ ?_
        have lt : a < t := by push_cast at h1; omega
        have e2 := mx_succ (needs := needs) lt
        push_cast at h2
        rw [e2] at h2
        have hm := R.full a h0 lt (by omega)
        rw [p1] at hm
        rcases List.mem_append.mp hm with hm | hm
        · have := p2 a hm
          omega
        · exact hm
    · intro v
      show v ∈ (runV needs t).1 ++ _ ↔ _
      rw [List.mem_append, R.mem, cv]
      constructor
      · rintro (⟨a, u, h1, h2, h3⟩ | ⟨a, ha, h3⟩)
        · exact ⟨a, u, h1, by omega, h3⟩
        · exact ⟨a, t, (R.bd a ha).1, by omega, h3⟩
      · rintro ⟨a, u, h1, h2, h3, h4⟩
        by_cases e : u = t
        · subst e
          have := h3.1
          exact .inr ⟨a, R.full a h1 (by omega) (by have := h3.2; omega), h3, h4⟩
        · exact .inl ⟨a, u, h1, by omega, h3, h4⟩
    · refine List.nodup_append.mpr ⟨R.fnd, ?_, ?_⟩
      · have h1 : ((runV needs t).2.map (· + 1)).Nodup := by
          refine List.pairwise_map.mpr (R.nd.imp ?_)
          intro a b h e
          exact h (by omega)
        have h2 := (closed_sub (needs := needs) (t := t) (x := nAt needs t) (low := 0) (st := (runV needs t).2)).nodup h1
        exact (List.pairwise_map.mp h2).imp fun h e => h (by rw [e])
      · intro x hx1 y hy e
        subst e
        obtain ⟨a, u, _, h2, _, rfl⟩ := (R.mem _).mp hx1
        obtain ⟨b, _, _, e⟩ := (cv _).mp hy
        simp only [valOf, Prod.mk.injEq] at e
        omega
    · show ((runV needs t).1 ++ (closed needs t (nAt needs t) 0 (runV needs t).2).1).length + ((t : Int) :: (closed needs t (nAt needs t) 0 (runV needs t).2).2).length ≤ t + 1
      rw [List.length_append, List.length_cons]
      have h := R.len
      cases t with
      | zero => simp [runV, closed]
      | succ t =>
        have := closed_len' (needs := needs) (t := ((t + 1 : Nat) : Int)) (x := nAt needs ((t + 1 : Nat) : Int)) (low := 0) (R.hd (by omega))
        omega
    · intro _
      show some (t : Int) = some (((t + 1 : Nat) : Int) - 1)
      congr 1
      push_cast
      omega
/-! ### the valleys in their order -/
def valsAt (needs : List Int) (a : Nat) (n : Nat) : List (Int × Int × Int × Int) := (List.range n).filterMap fun i : Nat => if mx needs a (a + 2 + (i : Int)) < min (nAt needs a) (nAt needs (a + 2 + (i : Int))) then some (valOf needs a (a + 2 + (i : Int))) else none
def vals (needs : List Int) : List (Int × Int × Int × Int) := (List.range (needs.length - 1)).flatMap fun a => valsAt needs a (needs.length - (a + 2))
theorem valsAt_mem {needs : List Int} {a n : Nat} {v : Int × Int × Int × Int} : v ∈ valsAt needs a n ↔ ∃ u : Nat, u < a + 2 + n ∧ isVal needs a u ∧ v = valOf needs a u := by
  unfold valsAt
  rw [List.mem_filterMap]
  constructor
  · rintro ⟨i, hi, h⟩
    have hi := List.mem_range.mp hi
    split at h
    · rename_i c
      cases h
      have e : ((a + 2 + i : Nat) : Int) = a + 2 + (i : Int) := by push_cast; rfl
      exact ⟨a + 2 + i, by omega, ⟨by push_cast; omega, by rw [e]; exact c⟩, by rw [e]⟩
    · cases h
  · rintro ⟨u, h1, h2, h3⟩
    have h4 := h2.1
    have e : (a : Int) + 2 + ((u - (a + 2) : Nat) : Int) = u := by omega
    refine ⟨u - (a + 2), List.mem_range.mpr (by omega), ?_⟩
    rw [e, if_pos h2.2, h3]
theorem vals_mem {needs : List Int} {v : Int × Int × Int × Int} : v ∈ vals needs ↔ ∃ (a : Int) (u : Nat), 0 ≤ a ∧ u < needs.length ∧ isVal needs a u ∧ v = valOf needs a u := by
  unfold vals
  rw [List.mem_flatMap]
  constructor
  · rintro ⟨a, ha, h⟩
    have ha := List.mem_range.mp ha
    obtain ⟨u, h1, h2, h3⟩ := valsAt_mem.mp h
    have h4 := h2.1
    exact ⟨a, u, by omega, by omega, h2, h3⟩
  · rintro ⟨a, u, h0, h1, h2, h3⟩
    have h4 := h2.1
    obtain ⟨b, rfl⟩ := Int.eq_ofNat_of_zero_le h0
    exact ⟨b, List.mem_range.mpr (by omega), valsAt_mem.mpr ⟨u, by omega, h2, h3⟩⟩
def rowV (v : Int × Int × Int × Int) : List Int := [v.1, v.2.1, v.2.2.1, v.2.2.2]
theorem valsAt_sorted (needs : List Int) (a n : Nat) : (valsAt needs a n).Pairwise fun v w => v.1 = w.1 ∧ v.2.1 < w.2.1 := by
  unfold valsAt
  refine List.pairwise_filterMap.mpr (List.pairwise_lt_range.imp ?_)
  intro i j h v hv w hw
  split at hv
  · split at hw
    · cases hv; cases hw
      refine ⟨rfl, ?_⟩
      show (a : Int) + 2 + (i : Int) - a - 1 < a + 2 + (j : Int) - a - 1
      omega
    · cases hw
  · cases hv
theorem vals_sorted (needs : List Int) : (vals needs).Pairwise fun v w => v.1 < w.1 ∨ (v.1 = w.1 ∧ v.2.1 < w.2.1) := by
  unfold vals
  refine List.pairwise_flatMap.mpr ⟨fun a _ => (valsAt_sorted needs a _).imp fun h => .inr h, List.pairwise_lt_range.imp ?_⟩
  intro a b h v hv w hw
  obtain ⟨u, _, _, rfl⟩ := valsAt_mem.mp hv
  obtain ⟨u', _, _, rfl⟩ := valsAt_mem.mp hw
  simp only [valOf]
  omega
theorem rowV_lt {v w : Int × Int × Int × Int} (h : v.1 < w.1 ∨ (v.1 = w.1 ∧ v.2.1 < w.2.1)) : rowV v < rowV w := by
  unfold rowV
  rcases h with h | ⟨h1, h2⟩
  · exact List.Lex.rel h
  · rw [h1]
    exact List.Lex.cons (List.Lex.rel h2)
theorem sorted_eq : ∀ {l r : List (List Int)}, l.Perm r → l.Pairwise (· ≤ ·) → r.Pairwise (· ≤ ·) → l = r
  | [], r, p, _, _ => (List.nil_perm.mp p).symm
  | a :: l, [], p, _, _ => absurd p.length_eq (by simp)
  | a :: l, b :: r, p, h, k => by
    have h' := List.pairwise_cons.mp h
    have k' := List.pairwise_cons.mp k
    have e : a = b := by
      have hb : b ∈ a :: l := p.mem_iff.mpr List.mem_cons_self
      have ha : a ∈ b :: r := p.mem_iff.mp List.mem_cons_self
      rcases List.mem_cons.mp hb with q | q
      · exact q.symm
      · rcases List.mem_cons.mp ha with q' | q'
        · exact q'
        · exact List.le_antisymm (h'.1 b q) (k'.1 a q')
    subst e
    rw [sorted_eq ((List.perm_cons a).mp p) h'.2 k'.2]
theorem vals_sort {needs : List Int} (hx : ∀ a, 0 ≤ nAt needs a) {rs : List (List Int)} (p : rs.Perm ((runV needs needs.length).1.map rowV)) (h : rs.Pairwise (· ≤ ·)) : rs = (vals needs).map rowV := by
  have R := runOk hx needs.length
  have nd : (vals needs).Nodup := (vals_sorted needs).imp fun h e => by
    subst e
    omega
  have pm : (runV needs needs.length).1.Perm (vals needs) := by
    rw [List.perm_ext_iff_of_nodup R.fnd nd]
    intro v
    rw [R.mem, vals_mem]
  refine sorted_eq (p.trans (pm.map rowV)) h ?_
  exact List.pairwise_map.mpr ((vals_sorted needs).imp fun h => List.le_of_lt (rowV_lt h))
theorem nAt_nn {needs : List Int} (h : ∀ x ∈ needs, 0 ≤ x) (a : Int) : 0 ≤ nAt needs a := by
  unfold nAt
  by_cases c : a.toNat < needs.length
  · have : needs.getD a.toNat 0 ∈ needs := by simp [List.getD, c]
    exact h _ this
  · simp [List.getD, Nat.le_of_not_lt c]
end Sq
/-! Sq31: the walks of valleys -/
namespace Sq
open PySem PySem.Spec PyProof.Rows L2
def F_valleys : FS := ⟨[.val], fun ds R => ∃ (needs : List Int), ds = [.tuple (needs.map .int)] ∧ (needs.length ≤ 10000 ∧ (∀ x ∈ needs, 0 ≤ x) ∧ R 1 (.list ((vals needs).map valD)) [])⟩
theorem valleys_ms : F_valleys.ms = [.val] := rfl
theorem valleys_sp {zz0 : List D} {R : Nat → D → List D → Prop} : F_valleys.sp [.tuple zz0] R = (∃ (needs : List Int), zz0 = (needs.map .int) ∧ (needs.length ≤ 10000 ∧ (∀ x ∈ needs, 0 ≤ x) ∧ R 1 (.list ((vals needs).map valD)) [])) := by
  apply propext
  constructor
  · rintro ⟨needs, e, h⟩
    cases e
    exact ⟨needs, rfl, h⟩
  · rintro ⟨needs, rfl, h⟩
    exact ⟨needs, rfl, h⟩
def F__law_valleys : FS := ⟨[.val], fun ds R => ∃ (needs : List Int), ds = [.tuple (needs.map .int)] ∧ (needs.length ≤ 1000 ∧ (∀ x ∈ needs, 0 ≤ x) ∧ R 0 (.list ((vals needs).map valD)) [])⟩
theorem law_valleys_ms : F__law_valleys.ms = [.val] := rfl
theorem law_valleys_sp {zz0 : List D} {R : Nat → D → List D → Prop} : F__law_valleys.sp [.tuple zz0] R = (∃ (needs : List Int), zz0 = (needs.map .int) ∧ (needs.length ≤ 1000 ∧ (∀ x ∈ needs, 0 ≤ x) ∧ R 0 (.list ((vals needs).map valD)) [])) := by
  apply propext
  constructor
  · rintro ⟨needs, e, h⟩
    cases e
    exact ⟨needs, rfl, h⟩
  · rintro ⟨needs, rfl, h⟩
    exact ⟨needs, rfl, h⟩
theorem range_at {n d : Nat} {k r : List Nat} (h : List.range n = k ++ d :: r) : d = k.length ∧ k.length < n ∧ k = List.range k.length := by
  have h1 : (List.range n)[k.length]? = some d := by rw [h]; simp
  have hl : k.length < n := by
    have := congrArg List.length h
    simp at this
    omega
  rw [List.getElem?_range hl] at h1
  refine ⟨(Option.some.inj h1).symm, hl, ?_⟩
  have h2 : (List.range n).take k.length = k := by rw [h]; simp
  have h3 : (List.range n).take k.length = List.range k.length := by rw [List.take_range, Nat.min_eq_left (Nat.le_of_lt hl)]
  rw [← h3, h2]
theorem nAt_of {needs : List Int} {i : Nat} : needs.getD i 0 = nAt needs (i : Int) := by simp [nAt]
/-! valleys: slots 0 needs 1 found 2 kept 3 tick; cells []; calls ['closed_by'] -/
def q_valleys_1 : WS := (wSeq (wExpr (wExt 1 (wCall F_closed_by (wCons (wSl 0) (wCons (wSl 2) (wCons (wSl 3) wNil)))))) (wSeq (wExpr (wApp 2 (wVar 3))) wNext))
def q_valleys : WS := (wSeq (wPar [1, 2] (wCons (wEx (wLst 0 wNil)) (wCons (wEx (wLst 0 wNil)) wNil))) (wSeq (wFor (wiRange1 (wOp oLen (wCons (wSl 0) wNil))) (wNmG 3) q_valleys_1) (wSeq (wRet (wOp oSorted (wCons (wSl 1) wNil))) wNext)))
/-! _law_valleys: slots 0 needs 1 found 2 begin 3 low 4 end 5 high; cells []; calls [] -/
local macro_rules | `(tactic| walk_at "z11") => `(tactic| simp only [x_wC, x_wEx, x_wNil, x_wCons, x_wOp, x_wT, x_wAndT, x_wOrT, x_wNotT, x_wIte, x_wAndV, x_wOrV, x_wNotV, x_wChain, x_wTru, x_wFz, x_wTup, x_wLst, x_wStar, x_wP0, x_wP1, x_wCut, x_wNext, x_wBrk, x_wCnt, x_wNever, x_wSeq, x_wNm, y_gn, y_gc, y_tp, x_wNmG, x_wAsg, x_wExpr, x_wRet, x_wRetN, x_wIf, x_wFor, x_wComp, x_wYes, x_wiSeq, x_wiEnum, x_wiRange1, x_wiRange2, y_par, y_al0, y_alC, y_app, x_wDisp, x_wDNew, x_wDNewT, x_wCall, x_wiZip, x_tmp, x_fs0, x_fs1, y_add, y_addS, y_addL, y_addT, y_sub, y_mul, y_rep, y_div, y_mod, y_pow, y_eq, y_eqS, y_eqL, y_eqT, y_ne, y_neS, y_neL, y_neT, y_lt, y_le, y_gt, y_ge, y_isN, y_notN, y_nNone, y_nInt, y_nStr, y_nTup, y_nLst, y_lenL, y_lenT, y_lenS, y_abs, y_max, y_min, y_int, y_intB, y_tupL, y_tupT, y_lstL, y_lstT, y_repr, y_neg, y_ixL, y_ixT, y_cutL, y_cutT, y_rev, y_starT, y_starL, y_starKT, y_starKL, y_itT, y_itKT, y_plain, y_itS, y_itKS, y_var, y_own, y_mv, y_seen, y_seenL, y_fetS, y_sl, y_tm0, y_tmS, y_tmI, y_tmT, y_tmX, y_tmN, y_tn0, y_tnC, y_mapS, y_io0, y_ioV, y_ioB, io_ex, y_nx, y_rt, y_fit0, y_fitT, y_fitN, y_fitX, y_fitS, y_setE0, y_setE1, y_pl, y_un, y_put, y_pop1, List.getElem?_cons_zero, List.getElem?_cons_succ, List.set_cons_zero, List.set_cons_succ, Option.some.injEq, PyData.int.injEq, PyData.bool.injEq, PyData.tuple.injEq, PyData.list.injEq, Prod.mk.injEq, Md.own.injEq, exists_eq_left', exists_eq_left, exists_eq', exists_eq, true_and, and_true, and_self, List.length_cons, List.length_nil, wipeE, restE, decide_eq_true_eq, Bool.not_eq_true', decide_eq_false_iff_not, Nat.reduceAdd, Nat.reduceLT, Nat.reduceLeDiff, Nat.zero_le, Nat.le_refl, waOf, List.map_cons, List.map_nil, Nat.zero_add, List.nil_append, Nat.lt_add_one, y_lfI, y_lfS, y_lfT, y_lfN, y_lfB, or_true, Nat.reduceSub, Nat.add_one_sub_one, List.map_append, List.length_map, exists_and_left, ↓reduceIte, Nat.lt_irrefl, y_po0, y_poS, y_poN, y_ou0, y_ouI, y_ouV, y_ouB, Bool.true_eq_false, Bool.false_eq_true, reduceCtorEq, a_nil, a_cons, a_vt, a_vs, a_is, a_bs, a_bt, a_v0, a_vl, a_vi, a_i0, a_b0, a_bl, y_bind, ok_0, ok_1, ok_2, ok_3, ok_4, ok_5, ok_6, ok_i1, ok_i2, ok_i3, ok_i4, ok_i5, ok_i6, Option.getD_some, Option.getD_none, y_appB, at_0, at_1, at_2, at_3, y_chL, y_chT, not_true_eq_false, not_false_eq_true, true_or, y_pop0, F__law_source, F__law_pick, F__law_of, F__law_draw_needs, F__law_gaps, source_ms, source_sp, pick_ms, pick_sp, of_ms, of_sp, of_spT, draw_ms, draw_sp, lgaps_ms, lgaps_sp, y_ext, y_all, y_any, closed_ms, closed_sp, lsf_ms, lsf_sp, lc_ms, lc_sp, y_sumL, y_sumT, valleys_ms, valleys_sp, law_valleys_ms, law_valleys_sp])
theorem law_valleys (ds : List D) (R : Nat → D → List D → Prop) (h : F_valleys.sp ds R) : q_valleys (entE [.val] ds ++ List.replicate 3 none) (endK [.val] R) := by
  obtain ⟨needs, rfl, hl, hx, hR⟩ := h
  have szl : sizeLine = 16777216 := sizeLine_eq
  unfold q_valleys
  show (wSeq _ _) [some (.own 0, .tuple (needs.map .int)), none, none, none] _
  have hx0 := nAt_nn hx
  refine seq_mid (fun e => e = [some (.own 0, .tuple (needs.map .int)), some (.own 1, .list []), some (.own 1, .list []), none]) (fun V hV => ?_) ?_
  · walk_at "z11"
    exact hV _ rfl
  rintro e rfl
  refine seq_mid (fun e => ∃ x2 x3, e = [some (.own 0, .tuple (needs.map .int)), some (.own 1, .list ((runV needs needs.length).1.map valD)), x2, x3]) (fun V hV => ?_) ?_
  · walk_at "z11"
    refine ⟨⟨by omega, by omega⟩, by omega, ?_⟩
    unfold rangeL
    refine for_map (fun dn e => ∃ x3, e = [some (.own 0, .tuple (needs.map .int)), some (.own 1, .list ((runV needs dn.length).1.map valD)), some (.own 1, .list ((runV needs dn.length).2.reverse.map .int)), x3]) ⟨none, rfl⟩ ?_ ?_
    · rintro dn d rs e hd ⟨x3, rfl⟩ Y hY
      obtain ⟨rfl, hlt, _⟩ := range_at hd
      have hlt : dn.length < needs.length := by omega
      have R := runOk hx0 dn.length
      have R' := runOk hx0 (dn.length + 1)
      unfold q_valleys_1
      walk_at "z11"
      refine ⟨rfl, needs, rfl, (runV needs dn.length).2, rfl, hl, by omega, by omega, fun a ha => by have := R.bd a ha; omega, by have := R.len; omega, ?_⟩
      have e1 : needs.getD (0 + (dn.length : Int)).toNat 0 = nAt needs dn.length := by
        rw [show (0 : Int) + dn.length = dn.length by omega]
        rfl
      rw [e1]
      have h1 := R'.len
      have h2 : (runV needs (dn.length + 1)).1 = (runV needs dn.length).1 ++ (closed needs dn.length (nAt needs dn.length) 0 (runV needs dn.length).2).1 := rfl
      have h3 : (runV needs (dn.length + 1)).2 = (dn.length : Int) :: (closed needs dn.length (nAt needs dn.length) 0 (runV needs dn.length).2).2 := rfl
      rw [show (0 : Int) + dn.length = dn.length by omega]
      rw [h2, h3, List.length_append, List.length_cons] at h1
      refine ⟨by omega, by rw [List.length_reverse]; omega, ?_⟩
      have := hY _ ⟨some (.own 0, .int dn.length), rfl⟩
      rw [List.length_append, List.length_singleton, h2, h3] at this
      simpa using this
    · rintro e ⟨x3, rfl⟩
      rw [List.length_range]
      have en : (needs.length : Int).toNat = needs.length := by omega
      rw [en]
      exact hV _ ⟨_, _, rfl⟩
  rintro e ⟨x2, x3, rfl⟩
  walk_at "z11"
  have ev : (runV needs needs.length).1.map valD = ((runV needs needs.length).1.map rowV).map tupI := by rw [List.map_map]; rfl
  rw [ev]
  refine y_sortR ⟨by decide, ?_, fun rs' pm pw => ?_⟩
  · intro r hr
    obtain ⟨v, _, rfl⟩ := List.mem_map.mp hr
    simp [rowV]
  · have := vals_sort hx0 pm pw
    rw [this, List.map_map]
    exact hR
end Sq
/-! Sq32: valleys and gaps; rows made greater -/
namespace Sq
open PySem PySem.Spec PyProof.Rows L2
theorem strict_eq {α : Type} {R : α → α → Prop} (as : ∀ a b, R a b → ¬ R b a) : ∀ {l r : List α}, l.Pairwise R → r.Pairwise R → (∀ x, x ∈ l ↔ x ∈ r) → l = r
  | [], [], _, _, _ => rfl
  | [], b :: r, _, _, h => absurd ((h b).mpr List.mem_cons_self) (by simp)
  | a :: l, [], _, _, h => absurd ((h a).mp List.mem_cons_self) (by simp)
  | a :: l, b :: r, h1, h2, h => by
    have h1' := List.pairwise_cons.mp h1
    have h2' := List.pairwise_cons.mp h2
    have e : a = b := by
      rcases List.mem_cons.mp ((h a).mp List.mem_cons_self) with e | e
      · exact e
      · rcases List.mem_cons.mp ((h b).mpr List.mem_cons_self) with e' | e'
        · exact e'.symm
        · exact absurd (h2'.1 a e) (as _ _ (h1'.1 b e'))
    subst e
    congr 1
    refine strict_eq as h1'.2 h2'.2 fun x => ?_
    constructor
    · intro hx
      rcases List.mem_cons.mp ((h x).mp (List.mem_cons_of_mem _ hx)) with e | e
      · subst e; exact absurd (h1'.1 x hx) (as _ _ (h1'.1 x hx))
      · exact e
    · intro hx
      rcases List.mem_cons.mp ((h x).mpr (List.mem_cons_of_mem _ hx)) with e | e
      · subst e; exact absurd (h2'.1 x hx) (as _ _ (h2'.1 x hx))
      · exact e
/-! ### neighbours in a row that rises -/
theorem zip_mem : ∀ {on : List Int}, on.Pairwise (· < ·) → ∀ {x y : Int}, (x, y) ∈ on.zip on.tail ↔ x ∈ on ∧ y ∈ on ∧ x < y ∧ ∀ z ∈ on, ¬ (x < z ∧ z < y)
  | [], _, x, y => by simp
  | [a], _, x, y => by
    simp
    intro e1 e2
    subst e1 e2
    omega
  | a :: b :: r, h, x, y => by
    have h' := List.pairwise_cons.mp h
    have h2 := List.pairwise_cons.mp h'.2
    have ih := zip_mem h'.2 (x := x) (y := y)
    simp only [List.tail_cons, List.zip_cons_cons, List.mem_cons, Prod.mk.injEq] at ih ⊢
    have hab := h'.1 b List.mem_cons_self
    rw [ih]
    constructor
    · rintro (⟨rfl, rfl⟩ | ⟨h3, h4, h5, h6⟩)
      · refine ⟨.inl rfl, .inr (.inl rfl), hab, ?_⟩
        intro z hz
        rcases hz with rfl | rfl | hz
        · omega
        · omega
        · have := h2.1 z hz; omega
      · refine ⟨.inr h3, .inr h4, h5, ?_⟩
        intro z hz
        rcases hz with rfl | hz
        · have : z < x := by
            rcases h3 with rfl | h3
            · exact hab
            · have := h2.1 x h3; omega
          omega
        · exact h6 z hz
    · rintro ⟨h3, h4, h5, h6⟩
      have h6b := h6 b (.inr (.inl rfl))
      rcases h3 with rfl | h3
      · have hy : y = b ∨ y ∈ r := by
          rcases h4 with rfl | h4
          · omega
          · exact h4
        rcases hy with rfl | hy
        · exact .inl ⟨rfl, rfl⟩
        · have := h2.1 y hy
          omega
      · rcases h4 with rfl | h4
        · have : y < x := by
            rcases h3 with rfl | h3
            · exact hab
            · have := h2.1 x h3; omega
          omega
        · exact .inr ⟨h3, h4, h5, fun z hz => h6 z (.inr hz)⟩
theorem onI_sorted (row : List Int) (k : Int) : (onI row k).Pairwise (· < ·) := by
  unfold onI
  refine List.pairwise_filterMap.mpr (List.pairwise_lt_range.imp ?_)
  intro i j h v hv w hw
  split at hv
  · split at hw
    · cases hv; cases hw; omega
    · cases hw
  · cases hv
theorem onI_iff {row : List Int} {k x : Int} : x ∈ onI row k ↔ 0 ≤ x ∧ x < row.length ∧ k ≤ nAt row x := by
  unfold onI
  rw [List.mem_filterMap]
  constructor
  · rintro ⟨t, ht, h⟩
    have ht := List.mem_range.mp ht
    split at h
    · rename_i c
      cases h
      rw [nAt_of] at c
      omega
    · cases h
  · rintro ⟨h0, h1, h2⟩
    obtain ⟨t, rfl⟩ := Int.eq_ofNat_of_zero_le h0
    refine ⟨t, List.mem_range.mpr (by omega), ?_⟩
    rw [nAt_of, if_pos h2]
theorem pairs_iff {row : List Int} {k : Int} {p : Int × Int} : p ∈ pairs (onI row k) ↔ ∃ a t : Int, 0 ≤ a ∧ a + 1 < t ∧ t < row.length ∧ k ≤ nAt row a ∧ k ≤ nAt row t ∧ (∀ j, a < j → j < t → nAt row j < k) ∧ p = (a + 1, t - a - 1) := by
  unfold pairs
  rw [List.mem_filterMap]
  constructor
  · rintro ⟨⟨a, t⟩, hm, h⟩
    rw [zip_mem (onI_sorted row k), onI_iff, onI_iff] at hm
    obtain ⟨⟨h1, h2, h3⟩, ⟨h4, h5, h6⟩, h7, h8⟩ := hm
    split at h
    · rename_i c
      cases h
      refine ⟨a, t, h1, c, h5, h3, h6, fun j j1 j2 => ?_, rfl⟩
      by_cases q : k ≤ nAt row j
      · exact absurd ⟨j1, j2⟩ (h8 j (onI_iff.mpr ⟨by omega, by omega, q⟩))
      · omega
    · cases h
  · rintro ⟨a, t, h1, h2, h3, h4, h5, h6, rfl⟩
    refine ⟨(a, t), ?_, by simp only; rw [if_pos h2]⟩
    rw [zip_mem (onI_sorted row k), onI_iff, onI_iff]
    refine ⟨⟨h1, by omega, h4⟩, ⟨by omega, h3, h5⟩, by omega, fun z hz hlt => ?_⟩
    have := (onI_iff.mp hz).2.2
    have := h6 z hlt.1 hlt.2
    omega
def lt2 (p q : Int × Int) : Prop := p.1 < q.1 ∨ (p.1 = q.1 ∧ p.2 < q.2)
theorem zip_sorted : ∀ {on : List Int}, on.Pairwise (· < ·) → (on.zip on.tail).Pairwise fun p q => p.1 < q.1
  | [], _ => by simp
  | [a], _ => by simp
  | a :: b :: r, h => by
    have h' := List.pairwise_cons.mp h
    have ih := zip_sorted h'.2
    simp only [List.tail_cons, List.zip_cons_cons] at ih ⊢
    refine List.pairwise_cons.mpr ⟨?_, ih⟩
    rintro ⟨x, y⟩ hm
    exact h'.1 x (List.of_mem_zip hm).1
theorem pairs_sorted (row : List Int) (k : Int) : (pairs (onI row k)).Pairwise lt2 := by
  unfold pairs
  refine List.pairwise_filterMap.mpr ((zip_sorted (onI_sorted row k)).imp ?_)
  intro p q h v hv w hw
  split at hv
  · split at hw
    · cases hv; cases hw; exact .inl (by simp only; omega)
    · cases hw
  · cases hv
/-- what the valleys tell of a layer -/
def valGaps (needs : List Int) (k : Int) : List (Int × Int) := (vals needs).filterMap fun v => if v.2.2.1 < k ∧ k ≤ v.2.2.2 then some (v.1, v.2.1) else none
theorem valGaps_sorted (needs : List Int) (k : Int) : (valGaps needs k).Pairwise lt2 := by
  unfold valGaps
  refine List.pairwise_filterMap.mpr ((vals_sorted needs).imp ?_)
  intro p q h v hv w hw
  split at hv
  · split at hw
    · cases hv; cases hw; exact h
    · cases hw
  · cases hv
theorem valGaps_eq {needs : List Int} {k : Int} (hk : 0 < k) : valGaps needs k = pairs (onI needs k) := by
  refine strict_eq (R := lt2) ?_ (valGaps_sorted needs k) (pairs_sorted needs k) fun p => ?_
  · rintro a b h1 h2
    unfold lt2 at h1 h2
    omega
  · rw [pairs_iff]
    unfold valGaps
    rw [List.mem_filterMap]
    constructor
    · rintro ⟨v, hv, h⟩
      obtain ⟨a, u, h0, h1, ⟨h2, h3⟩, rfl⟩ := vals_mem.mp hv
      split at h
      · rename_i c
        cases h
        simp only [valOf] at c
        exact ⟨a, u, h0, h2, by omega, by omega, by omega, (mx_lt hk (by omega)).mp c.1, rfl⟩
      · cases h
    · rintro ⟨a, t, h0, h1, h2, h3, h4, h5, rfl⟩
      obtain ⟨u, rfl⟩ := Int.eq_ofNat_of_zero_le (show 0 ≤ t by omega)
      have c := (mx_lt (needs := needs) hk (show a < (u : Int) by omega)).mpr h5
      refine ⟨valOf needs a u, vals_mem.mpr ⟨a, u, h0, by omega, ⟨h1, by omega⟩, rfl⟩, ?_⟩
      rw [if_pos (by simp only [valOf]; omega)]
      rfl
/-! ### rows made greater -/
theorem vals_bd {needs : List Int} {c : Int} (h : ∀ x ∈ needs, 0 ≤ x ∧ x ≤ c) (hc : 0 ≤ c) : ∀ v ∈ vals needs, 0 ≤ v.1 ∧ v.1 ≤ needs.length ∧ 0 ≤ v.2.1 ∧ v.2.1 ≤ needs.length ∧ 0 ≤ v.2.2.1 ∧ v.2.2.1 < v.2.2.2 ∧ v.2.2.2 ≤ c := by
  intro v hv
  obtain ⟨a, u, h0, h1, ⟨h2, h3⟩, rfl⟩ := vals_mem.mp hv
  have m0 := mx_nn (needs := needs) (a := a) (t := u)
  have nb : nAt needs a ≤ c := by
    unfold nAt
    by_cases q : a.toNat < needs.length
    · have : needs.getD a.toNat 0 ∈ needs := by simp [List.getD, q]
      exact (h _ this).2
    · simp [List.getD, Nat.le_of_not_lt q, hc]
  simp only [valOf]
  omega
end Sq
/-! Sq33: laps, sizes -/
namespace Sq
open PySem PySem.Spec PyProof.Rows L2
theorem for_laps {lo : Int} {n : Nat} {g : WG} {b : WS} {P : K4} {e : En} (I : Nat → En → Prop) (h0 : I 0 e)
    (h : ∀ i e, i < n → I i e → ∀ N : En → Prop, (∀ e', I (i + 1) e' → N e') → g 0 (.int (lo + (i : Int))) e fun e1 => b e1 { P with nx := N, ct := N, bk := P.nx }) (q : ∀ e, I n e → P.nx e) : loopW g b (rangeL lo n) e P := by
  unfold rangeL
  refine for_map (fun dn e => I dn.length e) h0 ?_ (fun e i => q e (by rwa [List.length_range] at i))
  rintro dn d rs e hd i N hN
  obtain ⟨rfl, hl, _⟩ := range_at hd
  refine h _ e hl i N fun e' i' => hN e' ?_
  rw [List.length_append, List.length_singleton]
  exact i'
theorem for_laps0 {n : Nat} {g : WG} {b : WS} {P : K4} {e : En} (I : Nat → En → Prop) (h0 : I 0 e)
    (h : ∀ i e, i < n → I i e → ∀ N : En → Prop, (∀ e', I (i + 1) e' → N e') → g 0 (.int (i : Int)) e fun e1 => b e1 { P with nx := N, ct := N, bk := P.nx }) (q : ∀ e, I n e → P.nx e) : loopW g b (rangeL 0 n) e P :=
  for_laps I h0 (fun i e hi hI N hN => by rw [Int.zero_add]; exact h i e hi hI N hN) q
/-- a comprehension over a range -/
theorem comp_range {lo : Int} {n : Nat} (f : Nat → D) {g : WG} {t : WT} {el : WE} {vs : List Nat} {k : Nat} {Q : List D → En → Prop} (I : En → Prop) {e : En} (i : I e)
    (h : ∀ i e, i < n → I e → ∀ K : Option D → En → Prop, (∀ e', I e' → K (some (f i)) e') → turnW g t el vs k (.int (lo + (i : Int))) e K) (q : ∀ e, I e → Q ((List.range n).map f) e) : compW g t el vs k (rangeL lo n) [] e Q := by
  unfold rangeL
  exact comp_map f I i (fun x hx e hI K hK => h x e (List.mem_range.mp hx) hI K hK) q
theorem comp_range0 {n : Nat} (f : Nat → D) {g : WG} {t : WT} {el : WE} {vs : List Nat} {k : Nat} {Q : List D → En → Prop} (I : En → Prop) {e : En} (i : I e)
    (h : ∀ i e, i < n → I e → ∀ K : Option D → En → Prop, (∀ e', I e' → K (some (f i)) e') → turnW g t el vs k (.int (i : Int)) e K) (q : ∀ e, I e → Q ((List.range n).map f) e) : compW g t el vs k (rangeL 0 n) [] e Q :=
  comp_range f I i (fun i e hi hI K hK => by rw [Int.zero_add]; exact h i e hi hI K hK) q
/-- one of a written list -/
theorem lit (l : List Int) (P : Int → Prop) (hP : ∀ x ∈ l, P x) {i : Nat} (h : i < l.length) : ∃ v, atI (l.map PyData.int) (i : Int) = some (.int v) ∧ P v := by
  refine ⟨l[i], at_int (by omega) ?_, hP _ (List.getElem_mem h)⟩
  rw [Int.toNat_natCast, List.getElem?_map, List.getElem?_eq_getElem h]
  rfl
theorem log_small {a : Int} (h1 : 0 ≤ a) (h2 : a ≤ 2 ^ 60) : a.natAbs.log2 < 8000 := by
  have := log2_le (a := a.natAbs) (k := 61) (by omega) (by decide)
  omega
theorem mul_small {a b : Int} (h1 : -(2 ^ 60) ≤ a ∧ a ≤ 2 ^ 60) (h2 : -(2 ^ 60) ≤ b ∧ b ≤ 2 ^ 60) : CMulB a b :=
  mulB_small (Nat.lt_of_lt_of_le (show _ < 2 ^ 61 by omega) (Nat.pow_le_pow_right (by decide) (by decide))) (Nat.lt_of_lt_of_le (show _ < 2 ^ 61 by omega) (Nat.pow_le_pow_right (by decide) (by decide)))
end Sq
/-! Sq34: isinstance; constants of the module -/
namespace Sq
open PySem PySem.Spec PyProof.Rows L2
def tyName : D → String
  | .none => "NoneType"
  | .bool _ => "bool"
  | .int _ => "int"
  | .str _ => "str"
  | .list _ => "list"
  | .tuple _ => "tuple"
  | .dict _ => "dict"
def isiD (d : D) (T : String) : Bool := decide (tyName d = T) || (decide (tyName d = "bool") && decide (T = "int"))
/-- a dict whose keys are not tuples -/
def plainD : D → Prop
  | .dict es => ∀ e, es.head? = some e → e.1 ≠ .none
  | _ => True
section
variable {K : Frag} {G H : Hp}
end
section
variable {X : Cx}
/-- isinstance(o, T) -/
def wIsi (o : WO) (T : String) : WE := fun env Q => o env fun od e1 => fetch e1 od fun _ d => plainD d ∧ Q 0 (.bool (isiD d T)) e1
/-- a constant of the module -/
def wGlo (d : D) : WE := fun env Q => Q 0 d env
end
section
variable {i : Int} {b : Bool} {x : Str} {xs : List D} {es : List (D × D)} {env : En} {Q : QE}
theorem x_wIsi (o : WO) (T : String) : wIsi o T env Q = (o env fun od e1 => fetch e1 od fun _ d => plainD d ∧ Q 0 (.bool (isiD d T)) e1) := rfl
theorem x_wGlo (d : D) : wGlo d env Q = Q 0 d env := rfl
theorem pl_N : plainD .none = True := rfl
theorem pl_B : plainD (.bool b) = True := rfl
theorem pl_I : plainD (.int i) = True := rfl
theorem pl_S : plainD (.str x) = True := rfl
theorem pl_L : plainD (.list xs) = True := rfl
theorem pl_T : plainD (.tuple xs) = True := rfl
theorem pl_D0 : plainD (.dict []) = True := by simp [plainD]
theorem i_Nint : isiD .none "int" = false := rfl
theorem i_Nbool : isiD .none "bool" = false := rfl
theorem i_Ntuple : isiD .none "tuple" = false := rfl
theorem i_Nstr : isiD .none "str" = false := rfl
theorem i_Nlist : isiD .none "list" = false := rfl
theorem i_Ndict : isiD .none "dict" = false := rfl
theorem i_Bint : isiD (.bool b) "int" = true := rfl
theorem i_Bbool : isiD (.bool b) "bool" = true := rfl
theorem i_Btuple : isiD (.bool b) "tuple" = false := rfl
theorem i_Bstr : isiD (.bool b) "str" = false := rfl
theorem i_Blist : isiD (.bool b) "list" = false := rfl
theorem i_Bdict : isiD (.bool b) "dict" = false := rfl
theorem i_Iint : isiD (.int i) "int" = true := rfl
theorem i_Ibool : isiD (.int i) "bool" = false := rfl
theorem i_Ituple : isiD (.int i) "tuple" = false := rfl
theorem i_Istr : isiD (.int i) "str" = false := rfl
theorem i_Ilist : isiD (.int i) "list" = false := rfl
theorem i_Idict : isiD (.int i) "dict" = false := rfl
theorem i_Sint : isiD (.str x) "int" = false := rfl
theorem i_Sbool : isiD (.str x) "bool" = false := rfl
theorem i_Stuple : isiD (.str x) "tuple" = false := rfl
theorem i_Sstr : isiD (.str x) "str" = true := rfl
theorem i_Slist : isiD (.str x) "list" = false := rfl
theorem i_Sdict : isiD (.str x) "dict" = false := rfl
theorem i_Lint : isiD (.list xs) "int" = false := rfl
theorem i_Lbool : isiD (.list xs) "bool" = false := rfl
theorem i_Ltuple : isiD (.list xs) "tuple" = false := rfl
theorem i_Lstr : isiD (.list xs) "str" = false := rfl
theorem i_Llist : isiD (.list xs) "list" = true := rfl
theorem i_Ldict : isiD (.list xs) "dict" = false := rfl
theorem i_Tint : isiD (.tuple xs) "int" = false := rfl
theorem i_Tbool : isiD (.tuple xs) "bool" = false := rfl
theorem i_Ttuple : isiD (.tuple xs) "tuple" = true := rfl
theorem i_Tstr : isiD (.tuple xs) "str" = false := rfl
theorem i_Tlist : isiD (.tuple xs) "list" = false := rfl
theorem i_Tdict : isiD (.tuple xs) "dict" = false := rfl
theorem i_Dint : isiD (.dict es) "int" = false := rfl
theorem i_Dbool : isiD (.dict es) "bool" = false := rfl
theorem i_Dtuple : isiD (.dict es) "tuple" = false := rfl
theorem i_Dstr : isiD (.dict es) "str" = false := rfl
theorem i_Dlist : isiD (.dict es) "list" = false := rfl
theorem i_Ddict : isiD (.dict es) "dict" = true := rfl
end
end Sq
/-! Sq35: x in a list -/
namespace Sq
open PySem PySem.Spec PyProof.Rows L2
section
variable {X : Cx}
def oIn : OW
  | [(_, d), (_, .list ds)], Q => (SeqAt.shaped d = true ∧ SeqAt.shaped (.list ds) = true) ∧ Q 0 (.bool (ds.any fun z => PyData.eqv z d))
  | _, _ => False
def oNin : OW
  | [(_, d), (_, .list ds)], Q => (SeqAt.shaped d = true ∧ SeqAt.shaped (.list ds) = true) ∧ Q 0 (.bool (!ds.any fun z => PyData.eqv z d))
  | _, _ => False
/-! ### tuples of ints: >= -/
def oGe2 : OW
  | [(_, .int i), (_, .int j)], Q => Q 0 (.bool (decide (j ≤ i)))
  | [(_, .tuple xs), (_, .tuple ys)], Q => ∃ ns ms, asInts xs = some ns ∧ asInts ys = some ms ∧ Q 0 (.bool (!decide (ns < ms)))
  | _, _ => False
/-! ### the greatest, the least of a tuple of ints -/
def oMaxA : OW
  | [(_, .tuple xs)], Q => ∃ n ns, asInts xs = some (n :: ns) ∧ Q 0 (.int (ns.foldl max n))
  | _, _ => False
def oMinA : OW
  | [(_, .tuple xs)], Q => ∃ n ns, asInts xs = some (n :: ns) ∧ Q 0 (.int (ns.foldl min n))
  | _, _ => False
end
section
variable {n m : Nat} {i j : Int} {ns ms : List Int} {Q : Nat → D → Prop}
theorem y_maxA : oMaxA [(n, .tuple ((i :: ns).map .int))] Q = Q 0 (.int (ns.foldl max i)) := by
  show (∃ n' ns', asInts ((i :: ns).map .int) = some (n' :: ns') ∧ Q 0 (.int (ns'.foldl max n'))) = _
  simp only [asInts_map, Option.some.injEq, List.cons.injEq]
  apply propext
  constructor
  · rintro ⟨_, _, ⟨rfl, rfl⟩, h⟩; exact h
  · exact fun h => ⟨_, _, ⟨rfl, rfl⟩, h⟩
theorem y_minA : oMinA [(n, .tuple ((i :: ns).map .int))] Q = Q 0 (.int (ns.foldl min i)) := by
  show (∃ n' ns', asInts ((i :: ns).map .int) = some (n' :: ns') ∧ Q 0 (.int (ns'.foldl min n'))) = _
  simp only [asInts_map, Option.some.injEq, List.cons.injEq]
  apply propext
  constructor
  · rintro ⟨_, _, ⟨rfl, rfl⟩, h⟩; exact h
  · exact fun h => ⟨_, _, ⟨rfl, rfl⟩, h⟩
theorem y_ge2 : oGe2 [(n, .int i), (m, .int j)] Q = Q 0 (.bool (decide (j ≤ i))) := rfl
theorem y_ge2T : oGe2 [(n, .tuple (ns.map .int)), (m, .tuple (ms.map .int))] Q = Q 0 (.bool (!decide (ns < ms))) := by
  show (∃ ns' ms', asInts (ns.map .int) = some ns' ∧ asInts (ms.map .int) = some ms' ∧ Q 0 (.bool (!decide (ns' < ms')))) = _
  simp [asInts_map]
end
section
variable {n m : Nat} {d : D} {ds : List D} {Q : Nat → D → Prop}
theorem y_in : oIn [(n, d), (m, .list ds)] Q = ((SeqAt.shaped d = true ∧ SeqAt.shaped (.list ds) = true) ∧ Q 0 (.bool (ds.any fun z => PyData.eqv z d))) := rfl
theorem y_nin : oNin [(n, d), (m, .list ds)] Q = ((SeqAt.shaped d = true ∧ SeqAt.shaped (.list ds) = true) ∧ Q 0 (.bool (!ds.any fun z => PyData.eqv z d))) := rfl
end
end Sq
/-! Sq36: papers of needs -/
namespace Sq
open PySem PySem.Spec PyProof.Rows L2
/-! ### what the valleys cost -/
def valSum (b : Int) (vs : List (Int × Int × Int × Int)) : Int := (vs.map fun v => (v.2.2.2 - v.2.2.1) * min v.2.1 b).sum
theorem upTo_one (c lo hi : Int) (top : Nat) (h0 : 0 ≤ lo) (h1 : lo ≤ hi) (h2 : hi ≤ top) : upTo (fun k => if lo < k ∧ k ≤ hi then c else 0) 0 top = (hi - lo) * c := by
  have e : top = lo.toNat + ((hi - lo).toNat + (top - hi.toNat)) := by omega
  rw [e, upTo_add, upTo_add]
  have a1 : upTo (fun k => if lo < k ∧ k ≤ hi then c else 0) 0 lo.toNat = 0 := by
    rw [upTo_congr (g := fun _ => 0) fun k hk hk2 => if_neg (by omega), upTo_const]
    simp
  have a2 : upTo (fun k => if lo < k ∧ k ≤ hi then c else 0) (0 + (lo.toNat : Int)) (hi - lo).toNat = (hi - lo) * c := by
    rw [upTo_congr (g := fun _ => c) fun k hk hk2 => if_pos (by omega), upTo_const]
    congr 1
    omega
  have a3 : upTo (fun k => if lo < k ∧ k ≤ hi then c else 0) (0 + (lo.toNat : Int) + ((hi - lo).toNat : Int)) (top - hi.toNat) = 0 := by
    rw [upTo_congr (g := fun _ => 0) fun k hk hk2 => if_neg (by omega), upTo_const]
    simp
  rw [a1, a2, a3]
  omega
theorem upTo_vals (b : Int) (top : Nat) : ∀ vs : List (Int × Int × Int × Int), (∀ v ∈ vs, 0 ≤ v.2.2.1 ∧ v.2.2.1 ≤ v.2.2.2 ∧ v.2.2.2 ≤ top) → upTo (fun k => ((vs.filterMap fun v => if v.2.2.1 < k ∧ k ≤ v.2.2.2 then some (v.1, v.2.1) else none).map fun p : Int × Int => min p.2 b).sum) 0 top = valSum b vs
  | [], _ => by
    simp only [List.filterMap_nil, List.map_nil, List.sum_nil, valSum]
    rw [upTo_const]
    simp
  | v :: vs, h => by
    have ih := upTo_vals b top vs fun w hw => h w (List.mem_cons_of_mem _ hw)
    have hv := h v List.mem_cons_self
    have e : ∀ k, (((v :: vs).filterMap fun v => if v.2.2.1 < k ∧ k ≤ v.2.2.2 then some (v.1, v.2.1) else none).map fun p : Int × Int => min p.2 b).sum = (if v.2.2.1 < k ∧ k ≤ v.2.2.2 then min v.2.1 b else 0) + ((vs.filterMap fun v => if v.2.2.1 < k ∧ k ≤ v.2.2.2 then some (v.1, v.2.1) else none).map fun p : Int × Int => min p.2 b).sum := by
      intro k
      rw [List.filterMap_cons]
      by_cases c : v.2.2.1 < k ∧ k ≤ v.2.2.2
      · simp [c]
      · simp [c]
    rw [upTo_congr (g := fun k => (if v.2.2.1 < k ∧ k ≤ v.2.2.2 then min v.2.1 b else 0) + ((vs.filterMap fun v => if v.2.2.1 < k ∧ k ≤ v.2.2.2 then some (v.1, v.2.1) else none).map fun p : Int × Int => min p.2 b).sum) fun k _ _ => e k, upTo_plus, ih, upTo_one _ _ _ _ hv.1 hv.2.1 hv.2.2]
    simp [valSum]
theorem layers_vals {needs : List Int} (b : Int) (hx : ∀ x ∈ needs, 0 ≤ x) : layersCost needs b = needs.sum + b * topN needs + valSum b (vals needs) := by
  have t := topN_le needs
  rw [cost_eq, upTo_plus (fun _ => b) (fun k => costP needs b k), upTo_const]
  have e : upTo (fun k => costP needs b k) 0 (topN needs).toNat = valSum b (vals needs) := by
    rw [← upTo_vals b (topN needs).toNat (vals needs) fun v hv => by
      have := vals_bd (c := topN needs) (fun x h => ⟨hx x h, t.2 x h⟩) t.1 v hv
      omega]
    refine upTo_congr fun k hk _ => ?_
    unfold costP
    rw [← valGaps_eq hk]
    rfl
  rw [e, show (((topN needs).toNat : Nat) : Int) = topN needs by omega, Int.mul_comm]
  omega
/-! ### forms -/
mutual
def dpl : D → Bool
  | .list xs => dplAll xs
  | .tuple xs => dplAll xs
  | .dict es => es.isEmpty
  | _ => true
def dplAll : List D → Bool
  | [] => true
  | d :: ds => dpl d && dplAll ds
end
def numD : D → Option Int
  | .int i => if 0 ≤ i then some i else none
  | _ => none
def numsD : List D → Option (List Int)
  | [] => some []
  | d :: ds => match numD d, numsD ds with
    | some i, some r => some (i :: r)
    | _, _ => none
def pairD : D → Option (List Int × Int)
  | .tuple [.tuple os, x] => if os.length = 4 then (match numsD os, numD x with
    | some r, some n => some (r, n)
    | _, _ => none) else none
  | _ => none
def pairsD : List D → Option (List (List Int × Int))
  | [] => some []
  | d :: ds => match pairD d, pairsD ds with
    | some i, some r => some (i :: r)
    | _, _ => none
def formD : D → Option (List (List Int × Int))
  | .tuple ps => pairsD ps
  | _ => none
def pD (p : List Int × Int) : D := .tuple [tupI p.1, .int p.2]
def F_is_number : FS := ⟨[.val], fun ds R => ∃ (v : D), ds = [v] ∧ (plainD v ∧ R 0 (.bool (numD v).isSome) [])⟩
theorem is_number_ms : F_is_number.ms = [.val] := rfl
theorem is_number_sp {v : D} {R : Nat → D → List D → Prop} : F_is_number.sp [v] R = ((plainD v ∧ R 0 (.bool (numD v).isSome) [])) := by
  apply propext
  constructor
  · rintro ⟨u'v, e, h⟩
    cases e
    exact h
  · intro h
    exact ⟨v, rfl, h⟩
def F__law_is_number : FS := ⟨[.val], fun ds R => ∃ (v : D), ds = [v] ∧ (plainD v ∧ R 0 (.bool (numD v).isSome) [])⟩
theorem law_is_number_ms : F__law_is_number.ms = [.val] := rfl
theorem law_is_number_sp {v : D} {R : Nat → D → List D → Prop} : F__law_is_number.sp [v] R = ((plainD v ∧ R 0 (.bool (numD v).isSome) [])) := by
  apply propext
  constructor
  · rintro ⟨u'v, e, h⟩
    cases e
    exact h
  · intro h
    exact ⟨v, rfl, h⟩
def F_is_form : FS := ⟨[.val], fun ds R => ∃ (v : D), ds = [v] ∧ (dpl v = true ∧ R 0 (.bool (formD v).isSome) [])⟩
theorem is_form_ms : F_is_form.ms = [.val] := rfl
theorem is_form_sp {v : D} {R : Nat → D → List D → Prop} : F_is_form.sp [v] R = ((dpl v = true ∧ R 0 (.bool (formD v).isSome) [])) := by
  apply propext
  constructor
  · rintro ⟨u'v, e, h⟩
    cases e
    exact h
  · intro h
    exact ⟨v, rfl, h⟩
end Sq
/-! Sq37: papers of needs judged -/
namespace Sq
open PySem PySem.Spec PyProof.Rows L2
theorem sIx_of {n d : Nat} {t : Int} (h : 0 ≤ t) : HT.sIx n d (some t) = min t.toNat n := by
  have q := HT.sIx_nat n d t.toNat
  rwa [Int.toNat_of_nonneg h] at q
theorem cut_mid {α : Type} (zs : List α) {a b : Int} (h0 : 0 ≤ a) (h1 : a ≤ b) (h2 : b ≤ zs.length) : cut zs (some a) (some b) = (zs.drop a.toNat).take (b - a).toNat := by
  unfold cut
  rw [sIx_of h0, sIx_of (by omega), Nat.min_eq_left (by omega), Nat.min_eq_left (by omega)]
  congr 1
  omega
def F_is_valley : FS := ⟨[.val, .val], fun ds R => ∃ (needs : List Int) (r : List Int), ds = [.tuple (needs.map .int), .tuple (r.map .int)] ∧ (needs.length ≤ 10000 ∧ (∀ x ∈ needs, 0 ≤ x) ∧ r.length = 4 ∧ R 0 (.bool (decide (r ∈ (vals needs).map rowV))) [])⟩
theorem is_valley_ms : F_is_valley.ms = [.val, .val] := rfl
theorem is_valley_sp {zz0 : List D} {zz1 : List D} {R : Nat → D → List D → Prop} : F_is_valley.sp [.tuple zz0, .tuple zz1] R = (∃ (needs : List Int) (r : List Int), zz0 = (needs.map .int) ∧ zz1 = (r.map .int) ∧ (needs.length ≤ 10000 ∧ (∀ x ∈ needs, 0 ≤ x) ∧ r.length = 4 ∧ R 0 (.bool (decide (r ∈ (vals needs).map rowV))) [])) := by
  apply propext
  constructor
  · rintro ⟨needs, r, e, h⟩
    cases e
    exact ⟨needs, r, rfl, rfl, h⟩
  · rintro ⟨needs, r, rfl, rfl, h⟩
    exact ⟨needs, r, rfl, h⟩
/-! ### the judge -/
def rowAt (ps : List (List Int × Int)) (k : Nat) : List Int × Int := ps.getD k ([], 0)
def ordF (ps : List (List Int × Int)) (k : Nat) : Bool := decide (0 < k ∧ ¬ (rowAt ps (k - 1)).1 < (rowAt ps k).1)
def valF (needs : List Int) (ps : List (List Int × Int)) (k : Nat) : Bool := !decide ((rowAt ps k).1 ∈ (vals needs).map rowV)
def numF (b : Int) (ps : List (List Int × Int)) (k : Nat) : Bool := decide (min ((rowAt ps k).1.getD 1 0) b < (rowAt ps k).2)
def paidF (ps : List (List Int × Int)) : Int := (ps.map fun p => (p.1.getD 3 0 - p.1.getD 2 0) * p.2).sum
def firstF (f : Nat → Bool) (n : Nat) : Option Nat := (List.range n).find? f
def twoD (x : Str) (k : Nat) : D := .tuple [.str x, .int k]
def judgeD (needs : List Int) (b m : Int) (ps : List (List Int × Int)) : D :=
  match firstF (ordF ps) ps.length with
  | some k => twoD "order" k
  | none => match firstF (valF needs ps) ps.length with
    | some k => twoD "valley" k
    | none => match firstF (numF b ps) ps.length with
      | some k => twoD "number" k
      | none => if m ≤ needs.sum + b * topN needs + paidF ps then .none else .tuple [.str "sum"]
def judgeV (needs : List Int) (b m : Int) (v : D) : D := match formD v with
  | none => .tuple [.str "form"]
  | some ps => judgeD needs b m ps
def Small (i : Int) : Prop := i.natAbs < 2 ^ 300
def smallP (p : List Int × Int) : Prop := (∀ x ∈ p.1, Small x) ∧ Small p.2
def F_judge_need_paper : FS := ⟨[.val, .val, .val, .val], fun ds R => ∃ (needs : List Int) (b : Int) (m : Int) (v : D), ds = [.tuple (needs.map .int), .int b, .int m, v] ∧ (needs.length ≤ 10000 ∧ (∀ x ∈ needs, 0 ≤ x ∧ x ≤ 2 ^ 40) ∧ 0 ≤ b ∧ b ≤ 2 ^ 40 ∧ dpl v = true ∧ (∀ ps, formD v = some ps → ∀ p ∈ ps, smallP p) ∧ R 0 (judgeV needs b m v) [])⟩
theorem judge_need_paper_ms : F_judge_need_paper.ms = [.val, .val, .val, .val] := rfl
theorem judge_need_paper_sp {zz0 : List D} {b : Int} {m : Int} {v : D} {R : Nat → D → List D → Prop} : F_judge_need_paper.sp [.tuple zz0, .int b, .int m, v] R = (∃ (needs : List Int), zz0 = (needs.map .int) ∧ (needs.length ≤ 10000 ∧ (∀ x ∈ needs, 0 ≤ x ∧ x ≤ 2 ^ 40) ∧ 0 ≤ b ∧ b ≤ 2 ^ 40 ∧ dpl v = true ∧ (∀ ps, formD v = some ps → ∀ p ∈ ps, smallP p) ∧ R 0 (judgeV needs b m v) [])) := by
  apply propext
  constructor
  · rintro ⟨needs, u'b, u'm, u'v, e, h⟩
    cases e
    exact ⟨needs, rfl, h⟩
  · rintro ⟨needs, rfl, h⟩
    exact ⟨needs, b, m, v, rfl, h⟩
end Sq
/-! Sq38: papers of needs told; the law's own judge -/
namespace Sq
open PySem PySem.Spec PyProof.Rows L2
def F__law_paper_fault : FS := ⟨[.val, .val, .val, .val], fun ds R => ∃ (needs : List Int) (b : Int) (m : Int) (v : D), ds = [.tuple (needs.map .int), .int b, .int m, v] ∧ (needs.length ≤ 1000 ∧ (∀ x ∈ needs, 0 ≤ x ∧ x ≤ 2 ^ 40) ∧ 0 ≤ b ∧ b ≤ 2 ^ 40 ∧ dpl v = true ∧ v.canLay0 = true ∧ v.depth ≤ 60 ∧ (∀ ps, formD v = some ps → ps.length ≤ 100000 ∧ ∀ p ∈ ps, smallP p) ∧ R 0 (judgeV needs b m v) [])⟩
theorem law_paper_fault_ms : F__law_paper_fault.ms = [.val, .val, .val, .val] := rfl
theorem law_paper_fault_sp {zz0 : List D} {b : Int} {m : Int} {v : D} {R : Nat → D → List D → Prop} : F__law_paper_fault.sp [.tuple zz0, .int b, .int m, v] R = (∃ (needs : List Int), zz0 = (needs.map .int) ∧ (needs.length ≤ 1000 ∧ (∀ x ∈ needs, 0 ≤ x ∧ x ≤ 2 ^ 40) ∧ 0 ≤ b ∧ b ≤ 2 ^ 40 ∧ dpl v = true ∧ v.canLay0 = true ∧ v.depth ≤ 60 ∧ (∀ ps, formD v = some ps → ps.length ≤ 100000 ∧ ∀ p ∈ ps, smallP p) ∧ R 0 (judgeV needs b m v) [])) := by
  apply propext
  constructor
  · rintro ⟨needs, u'b, u'm, u'v, e, h⟩
    cases e
    exact ⟨needs, rfl, h⟩
  · rintro ⟨needs, rfl, h⟩
    exact ⟨needs, b, m, v, rfl, h⟩
def F_need_paper : FS := ⟨[.val, .val, .val], fun ds R => ∃ (needs : List Int) (b : Int) (m : Int), ds = [.tuple (needs.map .int), .int b, .int m] ∧ (needs.length ≤ 10000 ∧ (∀ x ∈ needs, 0 ≤ x ∧ x ≤ 2 ^ 40) ∧ 0 ≤ b ∧ b ≤ 2 ^ 40 ∧ R 0 (if m ≤ layersCost needs b then .tuple ((vals needs).map fun v => pD (rowV v, min v.2.1 b)) else .none) [])⟩
theorem need_paper_ms : F_need_paper.ms = [.val, .val, .val] := rfl
theorem need_paper_sp {zz0 : List D} {b : Int} {m : Int} {R : Nat → D → List D → Prop} : F_need_paper.sp [.tuple zz0, .int b, .int m] R = (∃ (needs : List Int), zz0 = (needs.map .int) ∧ (needs.length ≤ 10000 ∧ (∀ x ∈ needs, 0 ≤ x ∧ x ≤ 2 ^ 40) ∧ 0 ≤ b ∧ b ≤ 2 ^ 40 ∧ R 0 (if m ≤ layersCost needs b then .tuple ((vals needs).map fun v => pD (rowV v, min v.2.1 b)) else .none) [])) := by
  apply propext
  constructor
  · rintro ⟨needs, u'b, u'm, e, h⟩
    cases e
    exact ⟨needs, rfl, h⟩
  · rintro ⟨needs, rfl, h⟩
    exact ⟨needs, b, m, rfl, h⟩
end Sq
/-! Sq39: works -/
namespace Sq
open PySem PySem.Spec PyProof.Rows L2
structure CGlo (K : Frag) (mg : Str → Option Value) (x : Str) (d : D) : Prop where
  ex : ∃ u v, mg x = some u ∧ RelV v u ∧ ∀ G H, RepF K G H v d
abbrev Wk := Int × Int × Int × List Int
def wkD (w : Wk) : D := .tuple [.int w.1, .int w.2.1, .int w.2.2.1, .tuple (w.2.2.2.map .int)]
def Near (i : Int) : Prop := -(2 ^ 50) ≤ i ∧ i ≤ 2 ^ 50
structure Wok (w : Wk) : Prop where
  le : w.1 ≤ w.2.1
  len : (w.2.2.2.length : Int) = w.2.1 - w.1
  lo : Near w.1
  hi : Near w.2.1
  few : w.2.2.2.length ≤ 10000
def worthV (w : Wk) (x : Int) : Int := w.2.2.1 + (w.2.2.2.take (x - w.1).toNat).sum
def worthAt (w : Wk) (x : Int) : Option Int := if w.1 ≤ x ∧ x ≤ w.2.1 then some (worthV w x) else none
def optI : Option Int → D
  | some i => .int i
  | none => .none
def slopeAt (w : Wk) (x : Int) : Int := w.2.2.2.getD (x - w.1).toNat 0
def sumOf (o p : Wk) : Option Wk := if min o.2.1 p.2.1 < max o.1 p.1 then none else
  some (max o.1 p.1, min o.2.1 p.2.1, worthV o (max o.1 p.1) + worthV p (max o.1 p.1), (List.range (min o.2.1 p.2.1 - max o.1 p.1).toNat).map fun k : Nat => slopeAt o (max o.1 p.1 + (k : Int)) + slopeAt p (max o.1 p.1 + (k : Int)))
def optW : Option Wk → D
  | some w => wkD w
  | none => .none
def lowOf (w : Wk) : Int := w.1 + (w.2.2.2.filter fun s => decide (s < 0)).length
def highOf (w : Wk) (b : Int) : Int := w.1 + (w.2.2.2.filter fun s => decide (s ≤ b)).length
def heldSlope (w : Wk) (b x : Int) : Int := if x < w.1 then 0 else if w.2.1 ≤ x then b else min b (max 0 (slopeAt w x))
def heldWorth (w : Wk) (b x : Int) : Int := if x ≤ lowOf w then worthV w (lowOf w) else
  worthV w (lowOf w) + ((List.range (min x w.2.1 - lowOf w).toNat).map fun k : Nat => heldSlope w b (lowOf w + (k : Int))).sum + b * (x - min x w.2.1)
def heldW (w : Wk) (b lo hi : Int) : Wk := (lo, hi, heldWorth w b lo, (List.range (hi - lo).toNat).map fun k : Nat => heldSlope w b (lo + (k : Int)))
def afterW (w s : Wk) (b : Int) : Wk := (s.1, s.2.1, s.2.2.1 + heldWorth w b s.1, (List.range (s.2.1 - s.1).toNat).map fun k : Nat => slopeAt s (s.1 + (k : Int)) + heldSlope w b (s.1 + (k : Int)))
def worksF (b : Int) : Wk → List Wk → List Wk
  | _, [] => []
  | w, s :: r => afterW w s b :: worksF b (afterW w s b) r
def W0 : Wk := (0, 0, 0, [])
def leastW (w : Wk) : Int := worthV w (lowOf w)
def F_worth_at : FS := ⟨[.val, .val], fun ds R => ∃ (w : Wk) (x : Int), ds = [wkD w, .int x] ∧ (Wok w ∧ R 0 (optI (worthAt w x)) [])⟩
theorem worth_at_ms : F_worth_at.ms = [.val, .val] := rfl
theorem worth_at_sp {zz0 : D} {x : Int} {R : Nat → D → List D → Prop} : F_worth_at.sp [zz0, .int x] R = (∃ (w : Wk), zz0 = wkD w ∧ (Wok w ∧ R 0 (optI (worthAt w x)) [])) := by
  apply propext
  constructor
  · rintro ⟨w, u'x, e, h⟩
    cases e
    exact ⟨w, rfl, h⟩
  · rintro ⟨w, rfl, h⟩
    exact ⟨w, x, rfl, h⟩
def F_low_of : FS := ⟨[.val], fun ds R => ∃ (w : Wk), ds = [wkD w] ∧ (R 0 (.int (lowOf w)) [])⟩
theorem low_of_ms : F_low_of.ms = [.val] := rfl
theorem low_of_sp {zz0 : D} {R : Nat → D → List D → Prop} : F_low_of.sp [zz0] R = (∃ (w : Wk), zz0 = wkD w ∧ (R 0 (.int (lowOf w)) [])) := by
  apply propext
  constructor
  · rintro ⟨w, e, h⟩
    cases e
    exact ⟨w, rfl, h⟩
  · rintro ⟨w, rfl, h⟩
    exact ⟨w, rfl, h⟩
def F_high_of : FS := ⟨[.val, .val], fun ds R => ∃ (w : Wk) (b : Int), ds = [wkD w, .int b] ∧ (R 0 (.int (highOf w b)) [])⟩
theorem high_of_ms : F_high_of.ms = [.val, .val] := rfl
theorem high_of_sp {zz0 : D} {b : Int} {R : Nat → D → List D → Prop} : F_high_of.sp [zz0, .int b] R = (∃ (w : Wk), zz0 = wkD w ∧ (R 0 (.int (highOf w b)) [])) := by
  apply propext
  constructor
  · rintro ⟨w, u'b, e, h⟩
    cases e
    exact ⟨w, rfl, h⟩
  · rintro ⟨w, rfl, h⟩
    exact ⟨w, b, rfl, h⟩
def F_held_slope : FS := ⟨[.val, .val, .val], fun ds R => ∃ (w : Wk) (b : Int) (x : Int), ds = [wkD w, .int b, .int x] ∧ (Wok w ∧ R 0 (.int (heldSlope w b x)) [])⟩
theorem held_slope_ms : F_held_slope.ms = [.val, .val, .val] := rfl
theorem held_slope_sp {zz0 : D} {b : Int} {x : Int} {R : Nat → D → List D → Prop} : F_held_slope.sp [zz0, .int b, .int x] R = (∃ (w : Wk), zz0 = wkD w ∧ (Wok w ∧ R 0 (.int (heldSlope w b x)) [])) := by
  apply propext
  constructor
  · rintro ⟨w, u'b, u'x, e, h⟩
    cases e
    exact ⟨w, rfl, h⟩
  · rintro ⟨w, rfl, h⟩
    exact ⟨w, b, x, rfl, h⟩
def F_sum_of : FS := ⟨[.val, .val], fun ds R => ∃ (o : Wk) (p : Wk), ds = [wkD o, wkD p] ∧ (Wok o ∧ Wok p ∧ R 0 (optW (sumOf o p)) [])⟩
theorem sum_of_ms : F_sum_of.ms = [.val, .val] := rfl
theorem sum_of_sp {zz0 : D} {zz1 : D} {R : Nat → D → List D → Prop} : F_sum_of.sp [zz0, zz1] R = (∃ (o : Wk) (p : Wk), zz0 = wkD o ∧ zz1 = wkD p ∧ (Wok o ∧ Wok p ∧ R 0 (optW (sumOf o p)) [])) := by
  apply propext
  constructor
  · rintro ⟨o, p, e, h⟩
    cases e
    exact ⟨o, p, rfl, rfl, h⟩
  · rintro ⟨o, p, rfl, rfl, h⟩
    exact ⟨o, p, rfl, h⟩
def F_held_worth : FS := ⟨[.val, .val, .val], fun ds R => ∃ (w : Wk) (b : Int) (x : Int), ds = [wkD w, .int b, .int x] ∧ (Wok w ∧ Near x ∧ Small b ∧ R 0 (.int (heldWorth w b x)) [])⟩
theorem held_worth_ms : F_held_worth.ms = [.val, .val, .val] := rfl
theorem held_worth_sp {zz0 : D} {b : Int} {x : Int} {R : Nat → D → List D → Prop} : F_held_worth.sp [zz0, .int b, .int x] R = (∃ (w : Wk), zz0 = wkD w ∧ (Wok w ∧ Near x ∧ Small b ∧ R 0 (.int (heldWorth w b x)) [])) := by
  apply propext
  constructor
  · rintro ⟨w, u'b, u'x, e, h⟩
    cases e
    exact ⟨w, rfl, h⟩
  · rintro ⟨w, rfl, h⟩
    exact ⟨w, b, x, rfl, h⟩
def F_held : FS := ⟨[.val, .val, .val, .val], fun ds R => ∃ (w : Wk) (b : Int) (lo : Int) (hi : Int), ds = [wkD w, .int b, .int lo, .int hi] ∧ (Wok w ∧ Near lo ∧ Near hi ∧ lo ≤ hi ∧ hi - lo ≤ 10000 ∧ Small b ∧ R 0 (wkD (heldW w b lo hi)) [])⟩
theorem held_ms : F_held.ms = [.val, .val, .val, .val] := rfl
theorem held_sp {zz0 : D} {b : Int} {lo : Int} {hi : Int} {R : Nat → D → List D → Prop} : F_held.sp [zz0, .int b, .int lo, .int hi] R = (∃ (w : Wk), zz0 = wkD w ∧ (Wok w ∧ Near lo ∧ Near hi ∧ lo ≤ hi ∧ hi - lo ≤ 10000 ∧ Small b ∧ R 0 (wkD (heldW w b lo hi)) [])) := by
  apply propext
  constructor
  · rintro ⟨w, u'b, u'lo, u'hi, e, h⟩
    cases e
    exact ⟨w, rfl, h⟩
  · rintro ⟨w, rfl, h⟩
    exact ⟨w, b, lo, hi, rfl, h⟩
def F_work_after : FS := ⟨[.val, .val, .val], fun ds R => ∃ (w : Wk) (s : Wk) (b : Int), ds = [wkD w, wkD s, .int b] ∧ (Wok w ∧ Wok s ∧ Small b ∧ R 0 (wkD (afterW w s b)) [])⟩
theorem work_after_ms : F_work_after.ms = [.val, .val, .val] := rfl
theorem work_after_sp {zz0 : D} {zz1 : D} {b : Int} {R : Nat → D → List D → Prop} : F_work_after.sp [zz0, zz1, .int b] R = (∃ (w : Wk) (s : Wk), zz0 = wkD w ∧ zz1 = wkD s ∧ (Wok w ∧ Wok s ∧ Small b ∧ R 0 (wkD (afterW w s b)) [])) := by
  apply propext
  constructor
  · rintro ⟨w, s, u'b, e, h⟩
    cases e
    exact ⟨w, s, rfl, rfl, h⟩
  · rintro ⟨w, s, rfl, rfl, h⟩
    exact ⟨w, s, b, rfl, h⟩
def F_works_of : FS := ⟨[.val, .val], fun ds R => ∃ (ss : List Wk) (b : Int), ds = [.tuple (ss.map wkD), .int b] ∧ ((∀ s ∈ ss, Wok s) ∧ Small b ∧ ss.length ≤ 100000 ∧ R 1 (.list ((worksF b W0 ss).map wkD)) [])⟩
theorem works_of_ms : F_works_of.ms = [.val, .val] := rfl
theorem works_of_sp {zz0 : List D} {b : Int} {R : Nat → D → List D → Prop} : F_works_of.sp [.tuple zz0, .int b] R = (∃ (ss : List Wk), zz0 = (ss.map wkD) ∧ ((∀ s ∈ ss, Wok s) ∧ Small b ∧ ss.length ≤ 100000 ∧ R 1 (.list ((worksF b W0 ss).map wkD)) [])) := by
  apply propext
  constructor
  · rintro ⟨ss, u'b, e, h⟩
    cases e
    exact ⟨ss, rfl, h⟩
  · rintro ⟨ss, rfl, h⟩
    exact ⟨ss, b, rfl, h⟩
def F_least_costs : FS := ⟨[.val, .val], fun ds R => ∃ (ss : List Wk) (b : Int), ds = [.tuple (ss.map wkD), .int b] ∧ ((∀ s ∈ ss, Wok s) ∧ Small b ∧ ss.length ≤ 100000 ∧ R 1 (.list (((worksF b W0 ss).map leastW).map .int)) [])⟩
theorem least_costs_ms : F_least_costs.ms = [.val, .val] := rfl
theorem least_costs_sp {zz0 : List D} {b : Int} {R : Nat → D → List D → Prop} : F_least_costs.sp [.tuple zz0, .int b] R = (∃ (ss : List Wk), zz0 = (ss.map wkD) ∧ ((∀ s ∈ ss, Wok s) ∧ Small b ∧ ss.length ≤ 100000 ∧ R 1 (.list (((worksF b W0 ss).map leastW).map .int)) [])) := by
  apply propext
  constructor
  · rintro ⟨ss, u'b, e, h⟩
    cases e
    exact ⟨ss, rfl, h⟩
  · rintro ⟨ss, rfl, h⟩
    exact ⟨ss, b, rfl, h⟩
def F_least_cost : FS := ⟨[.val, .val], fun ds R => ∃ (ss : List Wk) (b : Int), ds = [.tuple (ss.map wkD), .int b] ∧ ((∀ s ∈ ss, Wok s) ∧ Small b ∧ ss.length ≤ 100000 ∧ R 0 (.int (((worksF b W0 ss).map leastW).getLast?.getD 0)) [])⟩
theorem least_cost_ms : F_least_cost.ms = [.val, .val] := rfl
theorem least_cost_sp {zz0 : List D} {b : Int} {R : Nat → D → List D → Prop} : F_least_cost.sp [.tuple zz0, .int b] R = (∃ (ss : List Wk), zz0 = (ss.map wkD) ∧ ((∀ s ∈ ss, Wok s) ∧ Small b ∧ ss.length ≤ 100000 ∧ R 0 (.int (((worksF b W0 ss).map leastW).getLast?.getD 0)) [])) := by
  apply propext
  constructor
  · rintro ⟨ss, u'b, e, h⟩
    cases e
    exact ⟨ss, rfl, h⟩
  · rintro ⟨ss, rfl, h⟩
    exact ⟨ss, b, rfl, h⟩
theorem cut_drop {α : Type} (zs : List α) {t : Int} (h : 0 ≤ t) : cut zs (some t) none = zs.drop t.toNat := by
  unfold cut
  rw [sIx_of h]
  have e : HT.sIx zs.length zs.length none = zs.length := HT.sIx_none ..
  rw [e]
  by_cases hl : t.toNat ≤ zs.length
  · rw [Nat.min_eq_left hl, List.take_of_length_le (by rw [List.length_drop]; omega)]
  · rw [Nat.min_eq_right (by omega), List.drop_of_length_le (by omega), List.drop_of_length_le (by omega)]
    simp
end Sq
/-! Sq40: a tuple times a number -/
namespace Sq
open PySem PySem.Spec PyProof.Rows L2
theorem tuple_mul1 (l : Addr) (items : Array Value) (n : Nat) (dd : Option Addr) (sl : Array (Option Value)) (u : Tok) :
    Meets (Builtin.«tuple.__mul__» ⟨[.ref l, .int 1 u], []⟩) (fun _ R s => s.heap.get? l = some { cls := .type "tuple", dict := dd, data := .seq items n, slots := sl } ∧
      R (.ok (.ret (Value.ref l))) s) :=
  .of_wp fun prog w A R s h => by
    obtain ⟨hp, g, d, tk, os⟩ := s
    obtain ⟨hl, h⟩ := h
    have f1 := AutoSeq1.idx_int
    wp_walk using wpAny_loadPart' hl
    exact ⟨_, rfl, h⟩
theorem tuple_mul0 (l : Addr) (items : Array Value) (n : Nat) (dd : Option Addr) (sl : Array (Option Value)) (x : Int) (u : Tok) (c0 : (decide (x < -(2 ^ 63)) || decide (x ≥ 2 ^ 63)) = false) (c1 : (items.isEmpty || x == 1) = false) (c2 : (decide (x ≤ 0) || items.isEmpty) = true) :
    Meets (Builtin.«tuple.__mul__» ⟨[.ref l, .int x u], []⟩) (fun _ R s => s.heap.get? l = some { cls := .type "tuple", dict := dd, data := .seq items n, slots := sl } ∧
      R (.ok (.ret (Value.ref s.heap.objs.size))) { s with heap := s.heap.push { cls := Value.type "tuple", data := Data.seq #[] }, toks := s.toks }) :=
  .of_wp fun prog w A R s h => by
    obtain ⟨hp, g, d, tk, os⟩ := s
    obtain ⟨hl, h⟩ := h
    have f1 := AutoSeq1.idx_int
    wp_walk using wpAny_loadPart' hl
    repeat (first
      | (refine wpAny_ite_false (decide_eq_false (by rw [c0]; exact Bool.false_ne_true)) ?_; wp_walk using wpAny_loadPart' hl)
      | (refine wpAny_ite_false (decide_eq_false (by rw [c1]; exact Bool.false_ne_true)) ?_; wp_walk using wpAny_loadPart' hl)
      | (refine wpAny_ite_true (decide_eq_true (by rw [c2])) ?_; wp_walk using wpAny_loadPart' hl))
    exact ⟨_, rfl, h⟩
def rRepA (K : Frag) : R2 := fun x y H Q => ∃ l k xs, x = .ref l ∧ y = .int k ∧ SqT K H l xs ∧ xs ≠ [] ∧ -(2 ^ 62) ≤ k ∧ k ≤ 1 ∧ (k = 1 → Q (.ref l) H) ∧ (k ≤ 0 → ∀ p, H p = none → Q (.ref p) (upd H p (.tup [])))
section
variable {X : Cx}
theorem op_repA : OpR X (binaryOp .Mult) (rRepA X.K) := by
  intro pins s σ H x y v u Q I rx ry h
  obtain ⟨l, k, xs, rfl, rfl, hT, hne, h1, h2, q1, q0⟩ := h
  cases rx
  obtain ⟨t, rfl⟩ := ry
  obtain ⟨its, r, ⟨⟨cls, dd, data, sl⟩, ho, hc, n, hd⟩, hs⟩ := I.tuple hT
  simp only at hc hd
  subst hc hd
  have hn : its ≠ [] := fun e => hne (by
    have hle : its.length = xs.length := r.length.symm
    rw [e] at hle
    exact List.eq_nil_of_length_eq_zero hle.symm)
  have hi : its.toArray.isEmpty = false := by
    cases its with
    | nil => exact absurd rfl hn
    | cons a b => rfl
  by_cases h : k = 1
  · subst h
    exact wpAny_binaryOp_repeat_ref (T := "tuple") (U := "int") (by decide) ⟨_, ho, rfl⟩ (fun s' => typeIs_int s' 1 t) noFill_tuple_mul F.fills_int_mul F.slot_int_rmul repeat_tuple F.slot_int_index.lookup
      (call_meets F.slot_int_rmul (typeIs_int s 1 t) F.entry_int_rmul (F.args_int_rmul_2 _ _) (int_rmul_tuple 1 t l its.toArray n dd sl)
        ⟨ho, rfl, ⟨_, ho, rfl⟩, call_meets F.slot_tuple_mul ⟨_, ho, rfl⟩ F.entry_tuple_mul (F.args_tuple_mul_2 _ _) (tuple_mul1 l its.toArray n dd sl t) ⟨ho, ⟨.ref l, H, I, rfl, q1 rfl⟩⟩⟩)
  · have hk : k ≤ 0 := by omega
    have c0 : (decide (k < -(2 ^ 63)) || decide (k ≥ 2 ^ 63)) = false := by
      rw [decide_eq_false (by omega), decide_eq_false (by omega)] <;> rfl
    have c1 : (its.toArray.isEmpty || k == 1) = false := by
      rw [hi, Bool.false_or]
      exact beq_eq_false_iff_ne.mpr (by omega)
    have c2 : (decide (k ≤ 0) || its.toArray.isEmpty) = true := by
      rw [decide_eq_true hk]; rfl
    refine wpAny_binaryOp_repeat_ref (T := "tuple") (U := "int") (by decide) ⟨_, ho, rfl⟩ (fun s' => typeIs_int s' k t) noFill_tuple_mul F.fills_int_mul F.slot_int_rmul repeat_tuple F.slot_int_index.lookup
      (call_meets F.slot_int_rmul (typeIs_int s k t) F.entry_int_rmul (F.args_int_rmul_2 _ _) (int_rmul_tuple k t l its.toArray n dd sl)
        ⟨ho, rfl, ⟨_, ho, rfl⟩, call_meets F.slot_tuple_mul ⟨_, ho, rfl⟩ F.entry_tuple_mul (F.args_tuple_mul_2 _ _) (tuple_mul0 l its.toArray n dd sl k t c0 c1 c2) ⟨ho, ?_⟩⟩)
    refine ⟨.ref s.heap.objs.size, _, I.laid (t' := s.toks) (o := .tup []) (fun b ob q => Heap.get?_push_of_some _ q) (Nat.le_refl _) ?_, rfl, q0 hk _ (I.hok.fresh (Nat.le_refl _))⟩
    exact ⟨by simp, [], .nil, IsTup.new _ _⟩
def oMulT : OW
  | [(_, .tuple xs), (_, .int k)], Q => xs ≠ [] ∧ -(2 ^ 62) ≤ k ∧ k ≤ 1000 ∧ xs.length ≤ 1000 ∧ Q 0 (.tuple (List.replicate k.toNat xs).flatten)
  | _, _ => False
theorem s_mulT : BinS X (binaryOp .Mult) oMulT := by
  refine ⟨_, OpR.or op_repT op_repA, fun G H n m d e v u P Q g x y h q => ?_⟩
  unfold oMulT at h
  split at h
  · rename_i heq; cases heq
    obtain ⟨hne, h1, h2, h3, h⟩ := h
    obtain ⟨p, vs, rfl, ht, z, r⟩ := x.tup
    cases y.int
    have hl := r.length
    have hvs : vs ≠ [] := fun e => by subst e; cases r; exact hne rfl
    rename_i xs k
    by_cases hk : 2 ≤ k
    · refine .inl ⟨p, k, vs, rfl, rfl, ht, hvs, hk, h2, by omega, fun p' np => q _ _ _ _ h (.newT np ?_ (r.rep _))⟩
      rw [lm_len_rep_flat, sizeLine_eq]
      have a1 : k.toNat * vs.length ≤ 1000 * 1000 := Nat.mul_le_mul (by omega) (by omega)
      omega
    · refine .inr ⟨p, k, vs, rfl, rfl, ht, hvs, h1, by omega, fun e => ?_, fun e p' np => ?_⟩
      · subst e
        have e1 : (List.replicate (Int.toNat 1) xs).flatten = xs := by simp
        rw [e1] at h
        exact q _ _ _ _ h (.same (.tup ht z r))
      · have e1 : (List.replicate k.toNat xs).flatten = [] := by rw [show k.toNat = 0 by omega]; simp
        rw [e1] at h
        exact q _ _ _ _ h (.newT np (by simp) .nil)
  · exact h.elim
end
section
variable {n m : Nat} {xs : List D} {k : Int} {Q : Nat → D → Prop}
theorem y_mulT : oMulT [(n, .tuple xs), (m, .int k)] Q = (xs ≠ [] ∧ -(2 ^ 62) ≤ k ∧ k ≤ 1000 ∧ xs.length ≤ 1000 ∧ Q 0 (.tuple (List.replicate k.toNat xs).flatten)) := rfl
end
end Sq
/-! Sq41: keys that are reckoned; dicts read -/
namespace Sq
open PySem PySem.Spec PyProof.Rows L2
section
variable {env : En} {n m : Nat} {i j : Int} {k : Nat} {d : D} {R : QE}
def keyAt : Option Slot → Option Key
  | some (some (.own _, d)) => isKey d
  | _ => none
theorem kx_c {c : Key} : (Kx.c c).key env = some c := rfl
theorem kx_v : (Kx.v k).key env = keyAt env[k]? := by
  show (match env[k]? with
    | some (some (.own _, d)) => isKey d
    | _ => none) = _
  unfold keyAt
  rfl
theorem kx_add {x y : Kx} : (Kx.add x y).key env = keyOp (· + ·) (x.key env) (y.key env) := rfl
theorem kx_sub {x y : Kx} : (Kx.sub x y).key env = keyOp (· - ·) (x.key env) (y.key env) := rfl
theorem kx_it {j : Nat} {n : Int} : (Kx.it j n).key env = keyCh env[j]? n := rfl
theorem kc_0 {n : Nat} {i : Int} {ds : List D} : keyCh (some (some (.own n, .tuple (.int i :: ds)))) 0 = some (.inl i) := by
  show (((atI (.int i :: ds) 0).map fun c => (0, c)).bind fun c => isKey c.2) = some (.inl i)
  have e : atI (PyData.int i :: ds) 0 = some (.int i) := at_int (by omega) rfl
  rw [e]
  rfl
theorem kx_i : keyAt (some (some (.own n, .int i))) = some (.inl i) := rfl
theorem kx_s {s : Str} : keyAt (some (some (.own n, .str s))) = some (.inr s) := rfl
theorem ko_add : keyOp (· + ·) (some (.inl i)) (some (.inl j)) = some (.inl (i + j)) := rfl
theorem ko_sub : keyOp (· - ·) (some (.inl i)) (some (.inl j)) = some (.inl (i - j)) := rfl
theorem y_plK {x : Kx} : wPl (.k (.s k) x) env R = seenAt env[k]? fun n d => ∃ key c, x.key env = some key ∧ child n d key = some c ∧ (c.1 = 0 ∨ isLeaf c.2 = true) ∧ R 0 c.2 env := by
  show fetch env (.sl k) _ = _
  rw [y_fetS]
  congr 1
  funext n d
  apply propext
  constructor
  · rintro ⟨ks, m, c, h1, h2, h3⟩
    obtain ⟨key, hk, rfl⟩ : ∃ key, x.key env = some key ∧ ks = [Pk.key key] := by
      change ((some []).bind fun ks => (x.key env).map fun k => ks ++ [Pk.key k]) = some ks at h1
      cases hx : x.key env with
      | none => rw [hx] at h1; cases h1
      | some key => rw [hx] at h1; cases h1; exact ⟨key, rfl, rfl⟩
    obtain ⟨z, e1, e2⟩ := Option.bind_eq_some_iff.mp h2
    cases e2
    exact ⟨key, _, hk, e1, h3⟩
  · rintro ⟨key, c, hk, e1, h⟩
    refine ⟨[.key key], c.1, c.2, ?_, Option.bind_eq_some_iff.mpr ⟨c, e1, rfl⟩, h⟩
    change ((some []).bind fun ks => (x.key env).map fun k => ks ++ [Pk.key k]) = some [Pk.key key]
    rw [hk]
    rfl
theorem y_putK {x : Kx} {z : D} {a : Nat} {R : En → Prop} : wPut (.s k) x a z env R = ownAt env[k]? fun n d => 0 < n ∧ fit a (n - 1) z ∧ ∃ key c, x.key env = some key ∧ cput d key z = some c ∧ R (env.set k (some (.own n, c))) := by
  rw [← own_iff]
  apply propext
  constructor
  · rintro ⟨n, d, ks, key', m, c, c', h1, h2, h3, h4, h5, h6, h7⟩
    cases h2
    cases h4
    exact ⟨_, _, h1, Nat.succ_pos m, h5, key', c', h3, h6, h7⟩
  · rintro ⟨n, d, h1, h0, h5, key, c', h3, h6, h7⟩
    obtain ⟨m, rfl⟩ : ∃ m, n = m + 1 := ⟨n - 1, by omega⟩
    exact ⟨m + 1, d, [], key, m, d, c', h1, rfl, h3, rfl, h5, h6, h7⟩
end
/-! ### a thing read by its key, whatever holds it -/
def oIxC : OW
  | [(n, d), (_, kd)], Q => ∃ key c, isKey kd = some key ∧ child n d key = some c ∧ (c.1 = 0 ∨ isLeaf c.2 = true) ∧ Q 0 c.2
  | _, _ => False
section
variable {X : Cx} {pos : Pos}
/-! ### a key in a dict -/
def oDin : OW
  | [(_, kd), (_, .dict es)], Q => plainD (.dict es) ∧ (∃ key, isKey kd = some key) ∧ Q 0 (.bool (dhas es kd))
  | _, _ => False
def oDnin : OW
  | [(_, kd), (_, .dict es)], Q => plainD (.dict es) ∧ (∃ key, isKey kd = some key) ∧ Q 0 (.bool (!dhas es kd))
  | _, _ => False
/-! ### a slot's thing frozen where it stands -/
def wShare (i : Nat) : WE := fun env Q => ∃ n d, env[i]? = some (some (.own n, d)) ∧ Q 0 d (env.set i (some (.own 0, d)))
end
section
variable {env : En} {n m : Nat} {i : Int} {k : Nat} {d : D} {es : List (D × D)} {Q : Nat → D → Prop} {R : QE}
theorem x_wShare : wShare k env R = ownAt env[k]? fun n d => R 0 d (env.set k (some (.own 0, d))) := own_iff
theorem y_ixCD : oIxC [(n, .dict es), (m, .int i)] Q = ∃ c, dlook es (.int i) = some c ∧ (n - 1 = 0 ∨ isLeaf c = true) ∧ Q 0 c := by
  apply propext
  constructor
  · rintro ⟨key, c, hk, hc, hl, h⟩
    cases hk
    obtain ⟨z, e1, e2⟩ := Option.map_eq_some_iff.mp (show (dlook es (keyD (.inl i))).map (fun c => (n - 1, c)) = some c from hc)
    subst e2
    exact ⟨z, e1, hl, h⟩
  · rintro ⟨c, e1, hl, h⟩
    exact ⟨.inl i, (n - 1, c), rfl, by show (dlook es (.int i)).map _ = _; rw [e1]; rfl, hl, h⟩
theorem y_din : oDin [(m, .int i), (n, .dict es)] Q = (plainD (.dict es) ∧ Q 0 (.bool (dhas es (.int i)))) := by
  show (plainD (.dict es) ∧ (∃ key, some (Sum.inl i) = some key) ∧ _) = _
  simp
theorem y_dnin : oDnin [(m, .int i), (n, .dict es)] Q = (plainD (.dict es) ∧ Q 0 (.bool (!dhas es (.int i)))) := by
  show (plainD (.dict es) ∧ (∃ key, some (Sum.inl i) = some key) ∧ _) = _
  simp
end
end Sq
/-! Sq42: for and comprehensions over a dict's keys -/
namespace Sq
open PySem PySem.Spec PyProof.Rows L2
section
variable {K : Frag} {G H G1 H1 : Hp} {L : Addr → Prop} {σ : L2.St} {env e1 : En} {f f1 : Fps} {fv : List Addr} {p : Addr} {kvs : List (Key × V)} {od : Obj} {F : Addr → Prop}
def wLk (i : Nat) (w : WE) : WE := fun env Q => ∃ n es, env[i]? = some (some (.own n, .dict es)) ∧ plainD (.dict es) ∧ w (env.set i (some (.own 0, .dict es))) Q
def wLkS (i : Nat) (w : WS) : WS := fun env P => ∃ n es, env[i]? = some (some (.own n, .dict es)) ∧ plainD (.dict es) ∧ w (env.set i (some (.own 0, .dict es))) { P with ex := fun _ _ _ => False }
theorem SR.dict {i : Nat} {es : List (D × D)} (s : SR K G H L σ env f) (e1 : env[i]? = some (some (.own 0, .dict es))) (hp : plainD (.dict es)) :
    ∃ p kvs, σ[i]? = some (some (.ref p)) ∧ G p = some (.dK kvs) ∧ Rd H p (.dK kvs) ∧ es.map (·.1) = kvs.map (fun kv => keyD kv.1) ∧ kvs.length ≤ sizeLine := by
  obtain ⟨v, ev, r0⟩ := s.slot i _ _ e1
  obtain ⟨r, _⟩ := RepO.plain r0
  cases r with
  | dck h z e nd r => exact ⟨_, _, ev, h, s.gh _ _ h, e, z⟩
  | dct h z e nd r => exact absurd rfl (hp _ rfl)
  | ins h z e nd r => exact absurd rfl (hp _ rfl)
end
section
variable {X : Cx} {e : Expr} {st : Stmt} {i : Nat} {w : WE} {ws : WS} {A : Nat → Prop} {S : AS}
/-! ### a locked dict's keys -/
def wiKeys (i : Nat) : WI := fun env Q => ∃ es, env[i]? = some (some (.own 0, .dict es)) ∧ plainD (.dict es) ∧ Q (es.map (·.1)) env
def wForK (i : Nat) (g : WG) (b : WS) : WS := wLkS i (wFor (wiKeys i) g b)
def wCompK (i : Nat) (g : WG) (t : WT) (el : WE) (vs : List Nat) (k : Nat) : WE := wLk i (wComp (wiKeys i) g t el vs k)
variable {pos : Pos}
end
end Sq
/-! Sq43: displays with a reckoned key, list of a dict's keys, values, items; dict of pairs -/
namespace Sq
open PySem PySem.Spec PyProof.Rows L2
section
variable {X : Cx} {a b e : Expr} {p pos apos cpos : Pos} {te : TE}
/-! ### {k: v} -/
def wDisp1 (wk wv : WE) (m : Nat) : WE := fun env Q => wk env fun n0 kd e1 => n0 = 0 ∧ ∃ key, isKey kd = some key ∧ wv e1 fun n d e2 => (n = m ∨ (n = 0 ∧ isLeaf d = true)) ∧ Q (m + 1) (.dict [(kd, d)]) e2
/-! ### what a dict holds -/
/-- list(d) -/
def oListK : OW
  | [(_, .dict es)], Q => plainD (.dict es) ∧ Q 1 (.list (es.map (·.1)))
  | _, _ => False
def oVals : OW
  | [(n, .dict es)], Q => n ≤ 1 ∧ plainD (.dict es) ∧ Q 1 (.list (es.map (·.2)))
  | _, _ => False
def oItems : OW
  | [(n, .dict es)], Q => n ≤ 1 ∧ plainD (.dict es) ∧ Q 1 (.list (es.map fun kv => .tuple [kv.1, kv.2]))
  | _, _ => False
end
end Sq
/-! Sq44: tests on keys; dicts of numbers by numbers -/
namespace Sq
open PySem PySem.Spec PyProof.Rows L2
section
variable {X : Cx} {a b : Expr} {pos : Pos} {wa wb : WO}
end
/-! ### rewritings -/
def dictAt : D → (List (D × D) → Prop) → Prop
  | .dict es, R => R es
  | _, _ => False
section
variable {env : En} {i j k n m : Nat} {w : WE} {ws : WS} {Q : QE} {P : K4} {R : List (D × D) → Prop} {es : List (D × D)} {d : D} {g : WG} {t : WT} {el : WE} {b : WS} {vs : List Nat}
theorem y_dictAt : dictAt (.dict es) R = R es := rfl
theorem dict_iff {R : Nat → List (D × D) → Prop} {s : Option Slot} : (∃ n es, s = some (some (.own n, .dict es)) ∧ R n es) = ownAt s fun n d => dictAt d (R n) := by
  rw [← own_iff]
  apply propext
  constructor
  · rintro ⟨n, es, e, r⟩; exact ⟨n, _, e, r⟩
  · rintro ⟨n, d, e, r⟩
    cases d with
    | dict es => exact ⟨n, es, e, r⟩
    | _ => exact r.elim
theorem x_wLk : wLk i w env Q = ownAt env[i]? fun n d => dictAt d fun es => plainD (.dict es) ∧ w (env.set i (some (.own 0, .dict es))) Q := dict_iff
theorem x_wLkS : wLkS i ws env P = ownAt env[i]? fun n d => dictAt d fun es => plainD (.dict es) ∧ ws (env.set i (some (.own 0, .dict es))) { P with ex := fun _ _ _ => False } := dict_iff
/-- a slot's frozen thing -/
def ownAt0 (s : Option Slot) (R : D → Prop) : Prop := match s with
  | some (some (.own 0, d)) => R d
  | _ => False
theorem y_own0 {R : D → Prop} : ownAt0 (some (some (.own 0, d))) R = R d := rfl
theorem x_wiKeys {R : List D → En → Prop} : wiKeys i env R = ownAt0 env[i]? fun d => dictAt d fun es => plainD (.dict es) ∧ R (es.map (·.1)) env := by
  apply propext
  constructor
  · rintro ⟨es, e, h⟩
    show ownAt0 env[i]? _
    rw [e]
    exact h
  · intro h
    unfold ownAt0 at h
    split at h
    · rename_i d e
      cases d with
      | dict es => exact ⟨es, e, h⟩
      | _ => exact h.elim
    · exact h.elim
def keyOk : D → Prop
  | .int _ => True
  | .str _ => True
  | _ => False
theorem keyOk_i {i : Int} : keyOk (.int i) = True := rfl
theorem keyOk_s {x : Str} : keyOk (.str x) = True := rfl
theorem keyOk_iff {d : D} {R : Prop} : (∃ key, isKey d = some key ∧ R) = (keyOk d ∧ R) := by
  apply propext
  constructor
  · rintro ⟨key, e, r⟩
    refine ⟨?_, r⟩
    cases d <;> first | trivial | (cases e)
  · rintro ⟨e, r⟩
    cases d <;> first | exact ⟨_, rfl, r⟩ | exact e.elim
theorem x_disp1 {wk wv : WE} : wDisp1 wk wv m env Q = wk env fun n0 kd e1 => n0 = 0 ∧ keyOk kd ∧ wv e1 fun n d e2 => (n = m ∨ (n = 0 ∧ isLeaf d = true)) ∧ Q (m + 1) (.dict [(kd, d)]) e2 := by
  show wk env (fun n0 kd e1 => n0 = 0 ∧ ∃ key, isKey kd = some key ∧ _) = _
  simp only [keyOk_iff]
end
/-! ### dicts of numbers, from lo on -/
def eR (lo : Int) (n : Nat) (g : Int → Int) : List (D × D) := (List.range n).map fun k : Nat => (.int (lo + (k : Int)), .int (g (lo + (k : Int))))
section
variable {lo : Int} {n : Nat} {g : Int → Int} {x : Int}
theorem eR_cons : eR lo (n + 1) g = (.int lo, .int (g lo)) :: eR (lo + 1) n g := by
  unfold eR
  rw [List.range_succ_eq_map, List.map_cons, List.map_map]
  simp only [Int.natCast_zero, Int.add_zero]
  congr 1
  refine List.map_congr_left fun k _ => ?_
  simp only [Function.comp]
  rw [show lo + ((Nat.succ k : Nat) : Int) = lo + 1 + (k : Int) by omega]
theorem plain_R : plainD (.dict (eR lo n g)) := by
  intro e h
  cases n with
  | zero => cases h
  | succ n => rw [eR_cons] at h; cases h; simp [dTmark]
theorem keys_R : (eR lo n g).map (·.1) = rangeL lo n := by
  unfold eR rangeL
  rw [List.map_map]
  rfl
theorem vals_R : (eR lo n g).map (·.2) = ((List.range n).map fun k : Nat => g (lo + (k : Int))).map PyData.int := by
  unfold eR
  rw [List.map_map, List.map_map]
  rfl
theorem look_R : dlook (eR lo n g) (.int x) = if lo ≤ x ∧ x < lo + (n : Int) then some (.int (g x)) else none := by
  induction n generalizing lo with
  | zero => rw [if_neg (by omega)]; rfl
  | succ n ih =>
    rw [eR_cons]
    by_cases h : lo = x
    · subst h
      rw [if_pos (by omega)]
      simp [dlook, kq]
    · have e : dlook ((.int lo, .int (g lo)) :: eR (lo + 1) n g) (.int x) = dlook (eR (lo + 1) n g) (.int x) := by
        simp [dlook, List.find?_cons, kq, h]
      rw [e, ih]
      by_cases c : lo + 1 ≤ x ∧ x < lo + 1 + (n : Int)
      · rw [if_pos c, if_pos (by omega)]
      · rw [if_neg c, if_neg (by omega)]
theorem has_R : dhas (eR lo n g) (.int x) = decide (lo ≤ x ∧ x < lo + (n : Int)) := by
  induction n generalizing lo with
  | zero => rw [decide_eq_false (by omega)]; rfl
  | succ n ih =>
    rw [eR_cons]
    have e : dhas ((.int lo, .int (g lo)) :: eR (lo + 1) n g) (.int x) = (decide (lo = x) || dhas (eR (lo + 1) n g) (.int x)) := by simp [dhas, kq]
    rw [e, ih, ← Bool.decide_or]
    congr 1
    apply propext
    omega
end
section
variable {n m : Nat} {es : List (D × D)} {Q : Nat → D → Prop}
theorem y_listK : oListK [(n, .dict es)] Q = (plainD (.dict es) ∧ Q 1 (.list (es.map (·.1)))) := rfl
theorem y_valsK : oVals [(n, .dict es)] Q = (n ≤ 1 ∧ plainD (.dict es) ∧ Q 1 (.list (es.map (·.2)))) := rfl
theorem y_itemsK : oItems [(n, .dict es)] Q = (n ≤ 1 ∧ plainD (.dict es) ∧ Q 1 (.list (es.map fun kv => .tuple [kv.1, kv.2]))) := rfl
end
section
variable {env : En} {k : Nat} {x y : Kx} {R : QE} {j : Nat}
theorem y_plA : wPl (.k (.s k) (.add x y)) env R = seenAt env[k]? fun n d => ∃ key c, (Kx.add x y).key env = some key ∧ child n d key = some c ∧ (c.1 = 0 ∨ isLeaf c.2 = true) ∧ R 0 c.2 env := y_plK
theorem y_plB : wPl (.k (.s k) (.sub x y)) env R = seenAt env[k]? fun n d => ∃ key c, (Kx.sub x y).key env = some key ∧ child n d key = some c ∧ (c.1 = 0 ∨ isLeaf c.2 = true) ∧ R 0 c.2 env := y_plK
theorem y_plV : wPl (.k (.s k) (.v j)) env R = seenAt env[k]? fun n d => ∃ key c, (Kx.v j).key env = some key ∧ child n d key = some c ∧ (c.1 = 0 ∨ isLeaf c.2 = true) ∧ R 0 c.2 env := y_plK
variable {z : D} {a : Nat} {R : En → Prop}
theorem y_putA : wPut (.s k) (.add x y) a z env R = ownAt env[k]? fun n d => 0 < n ∧ fit a (n - 1) z ∧ ∃ key c, (Kx.add x y).key env = some key ∧ cput d key z = some c ∧ R (env.set k (some (.own n, c))) := y_putK
theorem y_putV : wPut (.s k) (.v j) a z env R = ownAt env[k]? fun n d => 0 < n ∧ fit a (n - 1) z ∧ ∃ key c, (Kx.v j).key env = some key ∧ cput d key z = some c ∧ R (env.set k (some (.own n, c))) := y_putK
end
end Sq
/-! Sq45: drawn slots -/
namespace Sq
open PySem PySem.Spec PyProof.Rows L2
/-- a slot: numbers to top, at most m of them behind the need, slopes to c either way -/
structure Sl (top m c : Int) (s : Wk) : Prop where
  n0 : 0 ≤ s.1
  le : s.1 ≤ s.2.1
  hi : s.2.1 ≤ top
  len : (s.2.2.2.length : Int) = s.2.1 - s.1
  few : s.2.1 - s.1 ≤ m
  srt : s.2.2.2.Pairwise (· ≤ ·)
  sl : ∀ x ∈ s.2.2.2, -c ≤ x ∧ x ≤ c
  fst : -(c * 100) ≤ s.2.2.1 ∧ s.2.2.1 ≤ c * 100
theorem sum_ab {c : Int} (c0 : 0 ≤ c) : ∀ {l : List Int}, (∀ x ∈ l, -c ≤ x ∧ x ≤ c) → -(c * l.length) ≤ l.sum ∧ l.sum ≤ c * l.length
  | [], _ => by simp
  | x :: l, h => by
    have h1 := h x (by simp)
    have h2 := sum_ab c0 (l := l) fun y hy => h y (by simp [hy])
    rw [List.sum_cons, List.length_cons]
    rw [show c * ((l.length + 1 : Nat) : Int) = c * l.length + c by rw [Int.natCast_add, Int.mul_add]; simp]
    omega
def F__law_draw_slots : FS := ⟨[.io 2, .val, .val], fun ds R => ∃ (N : Nat) (src : D) (ticks : Int) (most : Int), ds = [src, .int ticks, .int most] ∧ (Src N src ∧ N ≤ 2 ^ 50 ∧ 0 ≤ ticks ∧ ticks ≤ 100 ∧ 0 ≤ most ∧ most ≤ 40 ∧ ∀ (ss : List Wk) (src' : D), ss.length = ticks.toNat → (∀ s ∈ ss, Sl most most 8 s) → Src (N + 10000) src' → R 0 (.tuple (ss.map wkD)) [src'])⟩
theorem law_draw_slots_ms : F__law_draw_slots.ms = [.io 2, .val, .val] := rfl
theorem law_draw_slots_sp {src : D} {ticks : Int} {most : Int} {R : Nat → D → List D → Prop} : F__law_draw_slots.sp [src, .int ticks, .int most] R = (∃ (N : Nat), (Src N src ∧ N ≤ 2 ^ 50 ∧ 0 ≤ ticks ∧ ticks ≤ 100 ∧ 0 ≤ most ∧ most ≤ 40 ∧ ∀ (ss : List Wk) (src' : D), ss.length = ticks.toNat → (∀ s ∈ ss, Sl most most 8 s) → Src (N + 10000) src' → R 0 (.tuple (ss.map wkD)) [src'])) := by
  apply propext
  constructor
  · rintro ⟨N, u'src, u'ticks, u'most, e, h⟩
    cases e
    exact ⟨N, h⟩
  · rintro ⟨N, h⟩
    exact ⟨N, src, ticks, most, rfl, h⟩
def F__law_great_slots : FS := ⟨[.io 2, .val, .val], fun ds R => ∃ (N : Nat) (src : D) (ticks : Int) (most : Int), ds = [src, .int ticks, .int most] ∧ (Src N src ∧ N ≤ 2 ^ 50 ∧ 0 ≤ ticks ∧ ticks ≤ 100 ∧ 0 ≤ most ∧ most ≤ 40 ∧ ∀ (ss : List Wk) (src' : D), ss.length = ticks.toNat → (∀ s ∈ ss, Sl 1000000 most 80000000000 s) → Src (N + 10010) src' → R 0 (.tuple (ss.map wkD)) [src'])⟩
theorem law_great_slots_ms : F__law_great_slots.ms = [.io 2, .val, .val] := rfl
theorem law_great_slots_sp {src : D} {ticks : Int} {most : Int} {R : Nat → D → List D → Prop} : F__law_great_slots.sp [src, .int ticks, .int most] R = (∃ (N : Nat), (Src N src ∧ N ≤ 2 ^ 50 ∧ 0 ≤ ticks ∧ ticks ≤ 100 ∧ 0 ≤ most ∧ most ≤ 40 ∧ ∀ (ss : List Wk) (src' : D), ss.length = ticks.toNat → (∀ s ∈ ss, Sl 1000000 most 80000000000 s) → Src (N + 10010) src' → R 0 (.tuple (ss.map wkD)) [src'])) := by
  apply propext
  constructor
  · rintro ⟨N, u'src, u'ticks, u'most, e, h⟩
    cases e
    exact ⟨N, h⟩
  · rintro ⟨N, h⟩
    exact ⟨N, src, ticks, most, rfl, h⟩
theorem Sl.mono {t t' m m' c c' : Int} {s : Wk} (h : Sl t m c s) (h1 : t ≤ t') (h2 : m ≤ m') (h3 : c ≤ c') : Sl t' m' c' s := by
  have h4 := h.hi
  have h5 := h.few
  have h6 := h.fst
  exact ⟨h.n0, h.le, by omega, h.len, by omega, h.srt, fun x hx => by have := h.sl x hx; omega, by omega⟩
end Sq
/-! Sq46: what is held, as the least over all numbers to come from -/
namespace Sq
open PySem PySem.Spec PyProof.Rows L2
def Cvx (w : Wk) : Prop := w.2.2.2.Pairwise (· ≤ ·)
section
variable {w s : Wk} {b x y : Int}
end
end Sq
/-! Sq47: the dicts of slots' costs, and going over all numbers -/
namespace Sq
open PySem PySem.Spec PyProof.Rows L2
/-- the dict of a work's worths -/
def dN (w : Wk) : Nat := (w.2.1 - w.1).toNat + 1
def dW (w : Wk) : D := .dict (eR w.1 (dN w) (worthV w))
def F__law_slot_costs : FS := ⟨[.val], fun ds R => ∃ (ss : List Wk), ds = [.tuple (ss.map wkD)] ∧ ((∀ s ∈ ss, Wok s ∧ s.2.1 - s.1 ≤ 1000) ∧ ss.length ≤ 1000 ∧ R 1 (.list (ss.map dW)) [])⟩
theorem law_slot_costs_ms : F__law_slot_costs.ms = [.val] := rfl
theorem law_slot_costs_sp {zz0 : List D} {R : Nat → D → List D → Prop} : F__law_slot_costs.sp [.tuple zz0] R = (∃ (ss : List Wk), zz0 = (ss.map wkD) ∧ ((∀ s ∈ ss, Wok s ∧ s.2.1 - s.1 ≤ 1000) ∧ ss.length ≤ 1000 ∧ R 1 (.list (ss.map dW)) [])) := by
  apply propext
  constructor
  · rintro ⟨ss, e, h⟩
    cases e
    exact ⟨ss, rfl, h⟩
  · rintro ⟨ss, rfl, h⟩
    exact ⟨ss, rfl, h⟩
def F__law_going : FS := ⟨[.val, .val], fun ds R => ∃ (ss : List Wk) (b : Int), ds = [.list (ss.map dW), .int b] ∧ ((∀ s ∈ ss, Wok s ∧ Cvx s ∧ s.2.1 - s.1 ≤ 1000) ∧ ss.length ≤ 1000 ∧ 0 ≤ b ∧ b ≤ 2 ^ 60 ∧ R 1 (.list ((worksF b W0 ss).map dW)) [])⟩
theorem law_going_ms : F__law_going.ms = [.val, .val] := rfl
theorem law_going_sp {zz0 : List D} {b : Int} {R : Nat → D → List D → Prop} : F__law_going.sp [.list zz0, .int b] R = (∃ (ss : List Wk), zz0 = (ss.map dW) ∧ ((∀ s ∈ ss, Wok s ∧ Cvx s ∧ s.2.1 - s.1 ≤ 1000) ∧ ss.length ≤ 1000 ∧ 0 ≤ b ∧ b ≤ 2 ^ 60 ∧ R 1 (.list ((worksF b W0 ss).map dW)) [])) := by
  apply propext
  constructor
  · rintro ⟨ss, u'b, e, h⟩
    cases e
    exact ⟨ss, rfl, h⟩
  · rintro ⟨ss, rfl, h⟩
    exact ⟨ss, b, rfl, h⟩
def F__law_work_told : FS := ⟨[.val], fun ds R => ∃ (w : Wk), ds = [dW w] ∧ (Wok w ∧ R 0 (wkD w) [])⟩
theorem law_work_told_ms : F__law_work_told.ms = [.val] := rfl
theorem law_work_told_sp {zz0 : D} {R : Nat → D → List D → Prop} : F__law_work_told.sp [zz0] R = (∃ (w : Wk), zz0 = dW w ∧ (Wok w ∧ R 0 (wkD w) [])) := by
  apply propext
  constructor
  · rintro ⟨w, e, h⟩
    cases e
    exact ⟨w, rfl, h⟩
  · rintro ⟨w, rfl, h⟩
    exact ⟨w, rfl, h⟩
def F__law_low : FS := ⟨[.val], fun ds R => ∃ (w : Wk), ds = [dW w] ∧ (Wok w ∧ Cvx w ∧ R 0 (.int (lowOf w)) [])⟩
theorem law_low_ms : F__law_low.ms = [.val] := rfl
theorem law_low_sp {zz0 : D} {R : Nat → D → List D → Prop} : F__law_low.sp [zz0] R = (∃ (w : Wk), zz0 = dW w ∧ (Wok w ∧ Cvx w ∧ R 0 (.int (lowOf w)) [])) := by
  apply propext
  constructor
  · rintro ⟨w, e, h⟩
    cases e
    exact ⟨w, rfl, h⟩
  · rintro ⟨w, rfl, h⟩
    exact ⟨w, rfl, h⟩
def F__law_high : FS := ⟨[.val, .val], fun ds R => ∃ (w : Wk) (b : Int), ds = [dW w, .int b] ∧ (Wok w ∧ Cvx w ∧ R 0 (.int (highOf w b)) [])⟩
theorem law_high_ms : F__law_high.ms = [.val, .val] := rfl
theorem law_high_sp {zz0 : D} {b : Int} {R : Nat → D → List D → Prop} : F__law_high.sp [zz0, .int b] R = (∃ (w : Wk), zz0 = dW w ∧ (Wok w ∧ Cvx w ∧ R 0 (.int (highOf w b)) [])) := by
  apply propext
  constructor
  · rintro ⟨w, u'b, e, h⟩
    cases e
    exact ⟨w, rfl, h⟩
  · rintro ⟨w, rfl, h⟩
    exact ⟨w, b, rfl, h⟩
def F_ended : FS := ⟨[.val, .val], fun ds R => ∃ (ss : List Wk) (s : Wk) (x : Int), ds = [.tuple ((ss ++ [s]).map wkD), .int x] ∧ (ss.length ≤ 1000 ∧ s.1 ≤ x ∧ x ≤ 2 ^ 50 ∧ - 2 ^ 50 ≤ s.1 ∧ R 0 (.tuple ((ss ++ [((x, x, worthV s x, []) : Wk)]).map wkD)) [])⟩
theorem ended_ms : F_ended.ms = [.val, .val] := rfl
theorem ended_sp {zz0 : List D} {x : Int} {R : Nat → D → List D → Prop} : F_ended.sp [.tuple zz0, .int x] R = (∃ (ss : List Wk) (s : Wk), zz0 = ((ss ++ [s]).map wkD) ∧ (ss.length ≤ 1000 ∧ s.1 ≤ x ∧ x ≤ 2 ^ 50 ∧ - 2 ^ 50 ≤ s.1 ∧ R 0 (.tuple ((ss ++ [((x, x, worthV s x, []) : Wk)]).map wkD)) [])) := by
  apply propext
  constructor
  · rintro ⟨ss, s, u'x, e, h⟩
    cases e
    exact ⟨ss, s, rfl, h⟩
  · rintro ⟨ss, s, rfl, h⟩
    exact ⟨ss, s, x, rfl, h⟩
end Sq
/-! Sq48: lists that are not empty, whatever they hold; how great works are -/
namespace Sq
open PySem PySem.Spec PyProof.Rows L2
/-- xs != [] -/
def oNeE : OW
  | [(_, .list xs), (_, .list [])], Q => Q 0 (.bool (!xs.isEmpty))
  | _, _ => False
theorem y_neE {n m : Nat} {xs : List D} {Q : Nat → D → Prop} : oNeE [(n, .list xs), (m, .list [])] Q = Q 0 (.bool (!xs.isEmpty)) := rfl
/-! ### how great -/
theorem mul_le {a b c : Int} (h0 : 0 ≤ a) (h : b ≤ c) : a * b ≤ a * c := Int.mul_le_mul_of_nonneg_left h h0
theorem Sl.bd {t m c : Int} {s : Wk} (h : Sl t m c s) (c0 : 0 ≤ c) (m0 : 0 ≤ m) {x : Int} : -(c * (100 + m)) ≤ worthV s x ∧ worthV s x ≤ c * (100 + m) := by
  have h1 := h.fst
  have h2 := h.len
  have h3 := h.few
  have q := sum_ab c0 (l := s.2.2.2.take (x - s.1).toNat) fun y hy => h.sl y (List.mem_of_mem_take hy)
  have hl : (((s.2.2.2.take (x - s.1).toNat).length : Nat) : Int) ≤ m := by rw [List.length_take]; omega
  have e := mul_le c0 hl
  have e2 : c * (100 + m) = c * 100 + c * m := Int.mul_add ..
  unfold worthV
  omega
/-- worths to B, numbers from 0 to T -/
structure Bd (T B : Int) (w : Wk) : Prop where
  n0 : 0 ≤ w.1
  hi : w.2.1 ≤ T
  bd : ∀ x, w.1 ≤ x → x ≤ w.2.1 → -B ≤ worthV w x ∧ worthV w x ≤ B
theorem Sz.two {n w n' w' : Nat} {a b : D} (h : Sz n w a) (k : Sz n' w' b) : Sz (max n n' + 1) (2 * (max w w' + 1)) (.list [a, b]) :=
  Sz.lst (xs := [a, b]) (by
    intro x hx
    simp only [List.mem_cons, List.not_mem_nil, or_false] at hx
    rcases hx with rfl | rfl
    · exact h.mono (by omega) (by omega)
    · exact k.mono (by omega) (by omega))
end Sq
/-! Sq49: works of many slots -/
namespace Sq
open PySem PySem.Spec PyProof.Rows L2
end Sq
/-! Sq50: lists put together, wherever they stand -/
namespace Sq
open PySem PySem.Spec PyProof.Rows L2
def oAddL : OW
  | [(n, .list xs), (m, .list ys)], Q => n ≤ 1 ∧ m ≤ 1 ∧ xs.length + ys.length ≤ sizeLine ∧ Q 1 (.list (xs ++ ys))
  | _, _ => False
theorem y_addK {n m : Nat} {xs ys : List D} {Q : Nat → D → Prop} : oAddL [(n, .list xs), (m, .list ys)] Q = (n ≤ 1 ∧ m ≤ 1 ∧ xs.length + ys.length ≤ sizeLine ∧ Q 1 (.list (xs ++ ys))) := rfl
end Sq
/-! Sq51: rows: starts, prices, the best one -/
namespace Sq
open PySem PySem.Spec PyProof.Rows L2
def startsF : Int → List Int → Int
  | _, [] => 0
  | p, x :: r => max 0 (x - p) + startsF x r
def worthS : List Wk → List Int → Int
  | s :: r, x :: xs => worthV s x + worthS r xs
  | _, _ => 0
/-- a row serves -/
def servesF : List Wk → List Int → Prop
  | [], [] => True
  | s :: r, x :: xs => s.1 ≤ x ∧ x ≤ s.2.1 ∧ servesF r xs
  | _, _ => False
theorem startsF_snoc : ∀ {xs : List Int} {p y : Int}, startsF p (xs ++ [y]) = startsF p xs + max 0 (y - (xs.getLast?.getD p))
  | [], p, y => by simp [startsF]
  | x :: r, p, y => by
    have ih := startsF_snoc (xs := r) (p := x) (y := y)
    have e : (x :: r).getLast?.getD p = r.getLast?.getD x := by rw [List.getLast?_cons]; rfl
    rw [List.cons_append, e]
    simp only [startsF]
    rw [ih]
    omega
theorem starts_sum : ∀ (xs : List Int), ((List.range xs.length).map fun t : Nat => max 0 (xs.getD t 0 - if 0 < t then xs.getD (t - 1) 0 else 0)).sum = startsF 0 xs := by
  intro xs
  rcases List.eq_nil_or_concat xs with rfl | ⟨r, y, rfl⟩
  · rfl
  · have ih := starts_sum r
    rw [List.concat_eq_append, startsF_snoc, List.length_append, List.length_singleton, List.range_succ, List.map_append, List.sum_append]
    have e1 : ((List.range r.length).map fun t : Nat => max 0 ((r ++ [y]).getD t 0 - if 0 < t then (r ++ [y]).getD (t - 1) 0 else 0)) = (List.range r.length).map fun t : Nat => max 0 (r.getD t 0 - if 0 < t then r.getD (t - 1) 0 else 0) := by
      refine List.map_congr_left fun t ht => ?_
      have ht := List.mem_range.mp ht
      have a1 : (r ++ [y]).getD t 0 = r.getD t 0 := by simp [List.getD, List.getElem?_append_left ht]
      have a2 : (r ++ [y]).getD (t - 1) 0 = r.getD (t - 1) 0 := by simp [List.getD, List.getElem?_append_left (show t - 1 < r.length by omega)]
      rw [a1, a2]
    rw [e1, ih]
    simp only [List.map_cons, List.map_nil, List.sum_cons, List.sum_nil, Int.add_zero]
    congr 1
    have b1 : (r ++ [y]).getD r.length 0 = y := by simp [List.getD]
    rw [b1]
    congr 2
    rcases List.eq_nil_or_concat r with rfl | ⟨q, z, rfl⟩
    · simp
    · rw [List.concat_eq_append]
      have b2 : (q ++ [z] ++ [y]).getD ((q ++ [z]).length - 1) 0 = z := by simp [List.getD]
      rw [if_pos (by simp), b2]
      simp
termination_by xs => xs.length
decreasing_by simp_all
/-! ### the row from the lows -/
def clamp (w : Wk) (b x : Int) : Int := min (max x (lowOf w)) (highOf w b)
def backF (b : Int) : Int → List Wk → List Int
  | _, [] => []
  | x, w :: r => clamp w b x :: backF b (clamp w b x) r
def bestF (b : Int) (W : List Wk) : List Int := (backF b ((W.getLast?.map lowOf).getD 0) W.reverse).reverse
def F_best_row : FS := ⟨[.val, .val], fun ds R => ∃ (ss : List Wk) (b : Int), ds = [.tuple (ss.map wkD), .int b] ∧ ((∀ s ∈ ss, Wok s) ∧ Small b ∧ ss.length ≤ 100000 ∧ R 0 (.tuple ((bestF b (worksF b W0 ss)).map .int)) [])⟩
theorem best_row_ms : F_best_row.ms = [.val, .val] := rfl
theorem best_row_sp {zz0 : List D} {b : Int} {R : Nat → D → List D → Prop} : F_best_row.sp [.tuple zz0, .int b] R = (∃ (ss : List Wk), zz0 = (ss.map wkD) ∧ ((∀ s ∈ ss, Wok s) ∧ Small b ∧ ss.length ≤ 100000 ∧ R 0 (.tuple ((bestF b (worksF b W0 ss)).map .int)) [])) := by
  apply propext
  constructor
  · rintro ⟨ss, u'b, e, h⟩
    cases e
    exact ⟨ss, rfl, h⟩
  · rintro ⟨ss, rfl, h⟩
    exact ⟨ss, b, rfl, h⟩
def F__law_starts : FS := ⟨[.val], fun ds R => ∃ (xs : List Int), ds = [.tuple (xs.map .int)] ∧ (xs.length ≤ 100000 ∧ R 0 (.int (startsF 0 xs)) [])⟩
theorem law_starts_ms : F__law_starts.ms = [.val] := rfl
theorem law_starts_sp {zz0 : List D} {R : Nat → D → List D → Prop} : F__law_starts.sp [.tuple zz0] R = (∃ (xs : List Int), zz0 = (xs.map .int) ∧ (xs.length ≤ 100000 ∧ R 0 (.int (startsF 0 xs)) [])) := by
  apply propext
  constructor
  · rintro ⟨xs, e, h⟩
    cases e
    exact ⟨xs, rfl, h⟩
  · rintro ⟨xs, rfl, h⟩
    exact ⟨xs, rfl, h⟩
def F__law_price : FS := ⟨[.val, .val, .val], fun ds R => ∃ (ss : List Wk) (xs : List Int) (b : Int), ds = [.list (ss.map dW), .tuple (xs.map .int), .int b] ∧ ((∀ s ∈ ss, Wok s) ∧ xs.length ≤ 1000 ∧ Small b ∧ (startsF 0 xs).natAbs < 2 ^ 300 ∧ (servesF ss xs → R 0 (.list [.int (worthS ss xs + b * startsF 0 xs)]) []) ∧ (¬ servesF ss xs → R 0 (.list []) []))⟩
theorem law_price_ms : F__law_price.ms = [.val, .val, .val] := rfl
theorem law_price_sp {zz0 : List D} {zz1 : List D} {b : Int} {R : Nat → D → List D → Prop} : F__law_price.sp [.list zz0, .tuple zz1, .int b] R = (∃ (ss : List Wk) (xs : List Int), zz0 = (ss.map dW) ∧ zz1 = (xs.map .int) ∧ ((∀ s ∈ ss, Wok s) ∧ xs.length ≤ 1000 ∧ Small b ∧ (startsF 0 xs).natAbs < 2 ^ 300 ∧ (servesF ss xs → R 0 (.list [.int (worthS ss xs + b * startsF 0 xs)]) []) ∧ (¬ servesF ss xs → R 0 (.list []) []))) := by
  apply propext
  constructor
  · rintro ⟨ss, xs, u'b, e, h⟩
    cases e
    exact ⟨ss, xs, rfl, rfl, h⟩
  · rintro ⟨ss, xs, rfl, rfl, h⟩
    exact ⟨ss, xs, b, rfl, h⟩
def F__law_least_cost : FS := ⟨[.val, .val], fun ds R => ∃ (ss : List Wk) (b : Int), ds = [.list (ss.map dW), .int b] ∧ ((∀ s ∈ ss, Wok s ∧ Cvx s ∧ s.2.1 - s.1 ≤ 1000) ∧ ss.length ≤ 1000 ∧ 0 ≤ b ∧ b ≤ 2 ^ 60 ∧ R 0 (.int (((worksF b W0 ss).map leastW).getLast?.getD 0)) [])⟩
theorem law_least_cost_ms : F__law_least_cost.ms = [.val, .val] := rfl
theorem law_least_cost_sp {zz0 : List D} {b : Int} {R : Nat → D → List D → Prop} : F__law_least_cost.sp [.list zz0, .int b] R = (∃ (ss : List Wk), zz0 = (ss.map dW) ∧ ((∀ s ∈ ss, Wok s ∧ Cvx s ∧ s.2.1 - s.1 ≤ 1000) ∧ ss.length ≤ 1000 ∧ 0 ≤ b ∧ b ≤ 2 ^ 60 ∧ R 0 (.int (((worksF b W0 ss).map leastW).getLast?.getD 0)) [])) := by
  apply propext
  constructor
  · rintro ⟨ss, u'b, e, h⟩
    cases e
    exact ⟨ss, rfl, h⟩
  · rintro ⟨ss, rfl, h⟩
    exact ⟨ss, b, rfl, h⟩
def q__law_starts : WS := (wSeq (wRet (wOp oSum (wCons (wEx (wComp (wiRange1 (wOp oLen (wCons (wSl 0) wNil))) (wNmG 1) wYes (wOp oMax2 (wCons (wEx (wC (.int 0))) (wCons (wEx (wOp oSub (wCons (wEx (wOp oIx (wCons (wSl 0) (wCons (wSl 1) wNil)))) (wCons (wEx (wIte (wT (wOp oGt (wCons (wSl 1) (wCons (wEx (wC (.int 0))) wNil)))) (wOp oIx (wCons (wSl 0) (wCons (wEx (wOp oSub (wCons (wSl 1) (wCons (wEx (wC (.int 1))) wNil)))) wNil))) (wC (.int 0)))) wNil)))) wNil))) [1] 0)) wNil))) wNext)
local macro_rules | `(tactic| walk_at "z12") => `(tactic| simp only [x_wC, x_wEx, x_wNil, x_wCons, x_wOp, x_wT, x_wAndT, x_wOrT, x_wNotT, x_wIte, x_wAndV, x_wOrV, x_wNotV, x_wChain, x_wTru, x_wFz, x_wTup, x_wLst, x_wStar, x_wP0, x_wP1, x_wCut, x_wNext, x_wBrk, x_wCnt, x_wNever, x_wSeq, x_wNm, y_gn, y_gc, y_tp, x_wNmG, x_wAsg, x_wExpr, x_wRet, x_wRetN, x_wIf, x_wFor, x_wComp, x_wYes, x_wiSeq, x_wiEnum, x_wiRange1, x_wiRange2, y_par, y_al0, y_alC, y_app, x_wDisp, x_wDNew, x_wDNewT, x_wCall, x_wiZip, x_tmp, x_fs0, x_fs1, y_add, y_addS, y_addL, y_addT, y_sub, y_mul, y_rep, y_div, y_mod, y_pow, y_eq, y_eqS, y_eqL, y_eqT, y_ne, y_neS, y_neL, y_neT, y_lt, y_le, y_gt, y_ge, y_isN, y_notN, y_nNone, y_nInt, y_nStr, y_nTup, y_nLst, y_lenL, y_lenT, y_lenS, y_abs, y_max, y_min, y_int, y_intB, y_tupL, y_tupT, y_lstL, y_lstT, y_repr, y_neg, y_ixL, y_ixT, y_cutL, y_cutT, y_rev, y_starT, y_starL, y_starKT, y_starKL, y_itT, y_itKT, y_plain, y_itS, y_itKS, y_var, y_own, y_mv, y_seen, y_seenL, y_fetS, y_sl, y_tm0, y_tmS, y_tmI, y_tmT, y_tmX, y_tmN, y_tn0, y_tnC, y_mapS, y_io0, y_ioV, y_ioB, io_ex, y_nx, y_rt, y_fit0, y_fitT, y_fitN, y_fitX, y_fitS, y_setE0, y_setE1, y_pl, y_un, y_put, y_pop1, List.getElem?_cons_zero, List.getElem?_cons_succ, List.set_cons_zero, List.set_cons_succ, Option.some.injEq, PyData.int.injEq, PyData.bool.injEq, PyData.tuple.injEq, PyData.list.injEq, Prod.mk.injEq, Md.own.injEq, exists_eq_left', exists_eq_left, exists_eq', exists_eq, true_and, and_true, and_self, List.length_cons, List.length_nil, wipeE, restE, decide_eq_true_eq, Bool.not_eq_true', decide_eq_false_iff_not, Nat.reduceAdd, Nat.reduceLT, Nat.reduceLeDiff, Nat.zero_le, Nat.le_refl, waOf, List.map_cons, List.map_nil, Nat.zero_add, List.nil_append, Nat.lt_add_one, y_lfI, y_lfS, y_lfT, y_lfN, y_lfB, or_true, Nat.reduceSub, Nat.add_one_sub_one, List.map_append, List.length_map, exists_and_left, ↓reduceIte, Nat.lt_irrefl, y_po0, y_poS, y_poN, y_ou0, y_ouI, y_ouV, y_ouB, Bool.true_eq_false, Bool.false_eq_true, reduceCtorEq, a_nil, a_cons, a_vt, a_vs, a_is, a_bs, a_bt, a_v0, a_vl, a_vi, a_i0, a_b0, a_bl, y_bind, ok_0, ok_1, ok_2, ok_3, ok_4, ok_5, ok_6, ok_i1, ok_i2, ok_i3, ok_i4, ok_i5, ok_i6, Option.getD_some, Option.getD_none, y_appB, at_0, at_1, at_2, at_3, y_chL, y_chT, not_true_eq_false, not_false_eq_true, true_or, y_pop0, F__law_source, F__law_pick, F__law_of, F__law_draw_needs, F__law_gaps, source_ms, source_sp, pick_ms, pick_sp, of_ms, of_sp, of_spT, draw_ms, draw_sp, lgaps_ms, lgaps_sp, y_ext, y_all, y_any, closed_ms, closed_sp, lsf_ms, lsf_sp, lc_ms, lc_sp, y_sumL, y_sumT, x_wIsi, x_wGlo, pl_N, pl_B, pl_I, pl_S, pl_L, pl_T, pl_D0, i_Nint, i_Nbool, i_Ntuple, i_Nstr, i_Nlist, i_Ndict, i_Bint, i_Bbool, i_Btuple, i_Bstr, i_Blist, i_Bdict, i_Iint, i_Ibool, i_Ituple, i_Istr, i_Ilist, i_Idict, i_Sint, i_Sbool, i_Stuple, i_Sstr, i_Slist, i_Sdict, i_Lint, i_Lbool, i_Ltuple, i_Lstr, i_Llist, i_Ldict, i_Tint, i_Tbool, i_Ttuple, i_Tstr, i_Tlist, i_Tdict, i_Dint, i_Dbool, i_Dtuple, i_Dstr, i_Dlist, i_Ddict, y_in, y_nin, y_ge2, y_ge2T, y_maxA, y_minA, y_mulT, kx_c, kx_v, kx_add, kx_sub, kx_it, kc_0, kx_i, kx_s, ko_add, ko_sub, y_plA, y_plB, y_plV, y_putA, y_putV, x_wShare, y_ixCD, y_din, y_dnin, wForK, wCompK, x_wLk, x_wLkS, x_wiKeys, y_own0, y_dictAt, x_disp1, keyOk_i, keyOk_s, y_listK, y_valsK, y_itemsK, plain_R, keys_R, vals_R, look_R, has_R, y_neE, y_addK, valleys_ms, valleys_sp, law_valleys_ms, law_valleys_sp, is_number_ms, is_number_sp, law_is_number_ms, law_is_number_sp, is_form_ms, is_form_sp, is_valley_ms, is_valley_sp, judge_need_paper_ms, judge_need_paper_sp, law_paper_fault_ms, law_paper_fault_sp, need_paper_ms, need_paper_sp, worth_at_ms, worth_at_sp, low_of_ms, low_of_sp, high_of_ms, high_of_sp, held_slope_ms, held_slope_sp, sum_of_ms, sum_of_sp, held_worth_ms, held_worth_sp, held_ms, held_sp, work_after_ms, work_after_sp, works_of_ms, works_of_sp, least_costs_ms, least_costs_sp, least_cost_ms, least_cost_sp, law_draw_slots_ms, law_draw_slots_sp, law_great_slots_ms, law_great_slots_sp, law_slot_costs_ms, law_slot_costs_sp, law_going_ms, law_going_sp, law_work_told_ms, law_work_told_sp, law_low_ms, law_low_sp, law_high_ms, law_high_sp, ended_ms, ended_sp, best_row_ms, best_row_sp, law_starts_ms, law_starts_sp, law_price_ms, law_price_sp, law_least_cost_ms, law_least_cost_sp])
local macro_rules | `(tactic| walk_at "z13") => `(tactic| simp only [turnW, x_wC, x_wEx, x_wNil, x_wCons, x_wOp, x_wT, x_wAndT, x_wOrT, x_wNotT, x_wIte, x_wAndV, x_wOrV, x_wNotV, x_wChain, x_wTru, x_wFz, x_wTup, x_wLst, x_wStar, x_wP0, x_wP1, x_wCut, x_wNext, x_wBrk, x_wCnt, x_wNever, x_wSeq, x_wNm, y_gn, y_gc, y_tp, x_wNmG, x_wAsg, x_wExpr, x_wRet, x_wRetN, x_wIf, x_wFor, x_wComp, x_wYes, x_wiSeq, x_wiEnum, x_wiRange1, x_wiRange2, y_par, y_al0, y_alC, y_app, x_wDisp, x_wDNew, x_wDNewT, x_wCall, x_wiZip, x_tmp, x_fs0, x_fs1, y_add, y_addS, y_addL, y_addT, y_sub, y_mul, y_rep, y_div, y_mod, y_pow, y_eq, y_eqS, y_eqL, y_eqT, y_ne, y_neS, y_neL, y_neT, y_lt, y_le, y_gt, y_ge, y_isN, y_notN, y_nNone, y_nInt, y_nStr, y_nTup, y_nLst, y_lenL, y_lenT, y_lenS, y_abs, y_max, y_min, y_int, y_intB, y_tupL, y_tupT, y_lstL, y_lstT, y_repr, y_neg, y_ixL, y_ixT, y_cutL, y_cutT, y_rev, y_starT, y_starL, y_starKT, y_starKL, y_itT, y_itKT, y_plain, y_itS, y_itKS, y_var, y_own, y_mv, y_seen, y_seenL, y_fetS, y_sl, y_tm0, y_tmS, y_tmI, y_tmT, y_tmX, y_tmN, y_tn0, y_tnC, y_mapS, y_io0, y_ioV, y_ioB, io_ex, y_nx, y_rt, y_fit0, y_fitT, y_fitN, y_fitX, y_fitS, y_setE0, y_setE1, y_pl, y_un, y_put, y_pop1, List.getElem?_cons_zero, List.getElem?_cons_succ, List.set_cons_zero, List.set_cons_succ, Option.some.injEq, PyData.int.injEq, PyData.bool.injEq, PyData.tuple.injEq, PyData.list.injEq, Prod.mk.injEq, Md.own.injEq, exists_eq_left', exists_eq_left, exists_eq', exists_eq, true_and, and_true, and_self, List.length_cons, List.length_nil, wipeE, restE, decide_eq_true_eq, Bool.not_eq_true', decide_eq_false_iff_not, Nat.reduceAdd, Nat.reduceLT, Nat.reduceLeDiff, Nat.zero_le, Nat.le_refl, waOf, List.map_cons, List.map_nil, Nat.zero_add, List.nil_append, Nat.lt_add_one, y_lfI, y_lfS, y_lfT, y_lfN, y_lfB, or_true, Nat.reduceSub, Nat.add_one_sub_one, List.map_append, List.length_map, exists_and_left, ↓reduceIte, Nat.lt_irrefl, Nat.reduceLT, y_po0, y_poS, y_poN, y_ou0, y_ouI, y_ouV, y_ouB, Bool.true_eq_false, Bool.false_eq_true, reduceCtorEq, a_nil, a_cons, a_vt, a_vs, a_is, a_bs, a_bt, a_v0, a_vl, a_vi, a_i0, a_b0, a_bl, y_bind, ok_0, ok_1, ok_2, ok_3, ok_4, ok_5, ok_6, ok_i1, ok_i2, ok_i3, ok_i4, ok_i5, ok_i6, Option.getD_some, Option.getD_none, y_appB, at_0, at_1, at_2, at_3, y_chL, y_chT, not_true_eq_false, not_false_eq_true, true_or, y_pop0, F__law_source, F__law_pick, F__law_of, F__law_draw_needs, F__law_gaps, source_ms, source_sp, pick_ms, pick_sp, of_ms, of_sp, of_spT, draw_ms, draw_sp, lgaps_ms, lgaps_sp, y_ext, y_all, y_any, closed_ms, closed_sp, lsf_ms, lsf_sp, lc_ms, lc_sp, y_sumL, y_sumT, x_wIsi, x_wGlo, pl_N, pl_B, pl_I, pl_S, pl_L, pl_T, pl_D0, i_Nint, i_Nbool, i_Ntuple, i_Nstr, i_Nlist, i_Ndict, i_Bint, i_Bbool, i_Btuple, i_Bstr, i_Blist, i_Bdict, i_Iint, i_Ibool, i_Ituple, i_Istr, i_Ilist, i_Idict, i_Sint, i_Sbool, i_Stuple, i_Sstr, i_Slist, i_Sdict, i_Lint, i_Lbool, i_Ltuple, i_Lstr, i_Llist, i_Ldict, i_Tint, i_Tbool, i_Ttuple, i_Tstr, i_Tlist, i_Tdict, i_Dint, i_Dbool, i_Dtuple, i_Dstr, i_Dlist, i_Ddict, y_in, y_nin, y_ge2, y_ge2T, y_maxA, y_minA, y_mulT, kx_c, kx_v, kx_add, kx_sub, kx_it, kc_0, kx_i, kx_s, ko_add, ko_sub, y_plA, y_plB, y_plV, y_putA, y_putV, x_wShare, y_ixCD, y_din, y_dnin, wForK, wCompK, x_wLk, x_wLkS, x_wiKeys, y_own0, y_dictAt, x_disp1, keyOk_i, keyOk_s, y_listK, y_valsK, y_itemsK, plain_R, keys_R, vals_R, look_R, has_R, y_neE, y_addK, valleys_ms, valleys_sp, law_valleys_ms, law_valleys_sp, is_number_ms, is_number_sp, law_is_number_ms, law_is_number_sp, is_form_ms, is_form_sp, is_valley_ms, is_valley_sp, judge_need_paper_ms, judge_need_paper_sp, law_paper_fault_ms, law_paper_fault_sp, need_paper_ms, need_paper_sp, worth_at_ms, worth_at_sp, low_of_ms, low_of_sp, high_of_ms, high_of_sp, held_slope_ms, held_slope_sp, sum_of_ms, sum_of_sp, held_worth_ms, held_worth_sp, held_ms, held_sp, work_after_ms, work_after_sp, works_of_ms, works_of_sp, least_costs_ms, least_costs_sp, least_cost_ms, least_cost_sp, law_draw_slots_ms, law_draw_slots_sp, law_great_slots_ms, law_great_slots_sp, law_slot_costs_ms, law_slot_costs_sp, law_going_ms, law_going_sp, law_work_told_ms, law_work_told_sp, law_low_ms, law_low_sp, law_high_ms, law_high_sp, ended_ms, ended_sp, best_row_ms, best_row_sp, law_starts_ms, law_starts_sp, law_price_ms, law_price_sp, law_least_cost_ms, law_least_cost_sp])
theorem law__law_starts (ds : List D) (R : Nat → D → List D → Prop) (h : F__law_starts.sp ds R) : q__law_starts (entE [.val] ds ++ List.replicate 1 none) (endK [.val] R) := by
  obtain ⟨xs, rfl, hl, hR⟩ := h
  have szl : sizeLine = 16777216 := sizeLine_eq
  unfold q__law_starts
  show (wSeq _ _) [some (.own 0, .tuple (xs.map .int)), none] _
  walk_at "z12"
  refine ⟨⟨by omega, by omega⟩, by omega, ?_⟩
  rw [Int.toNat_natCast]
  refine comp_range0 (fun t => PyData.int (max 0 (xs.getD t 0 - if 0 < t then xs.getD (t - 1) 0 else 0))) (fun e => e = [some (.own 0, .tuple (xs.map .int)), none]) rfl ?_ ?_
  · rintro t e ht rfl Y hY
    have a1 : atI (xs.map PyData.int) (t : Int) = some (.int (xs.getD t 0)) := atI_nat (by rw [List.getElem?_map, List.getElem?_eq_getElem ht]; simp [List.getD, ht])
    have hY := hY _ rfl
    walk_at "z13"
    refine ⟨_, a1, ?_⟩
    by_cases c : 0 < t
    · rw [if_pos (by omega)]
      rw [if_pos c] at hY
      have a2 : atI (xs.map PyData.int) ((t : Int) - 1) = some (.int (xs.getD (t - 1) 0)) := by
        rw [show (t : Int) - 1 = ((t - 1 : Nat) : Int) by omega]
        exact atI_nat (by rw [List.getElem?_map, List.getElem?_eq_getElem (show t - 1 < xs.length by omega)]; simp [List.getD, show t - 1 < xs.length by omega])
      refine ⟨_, a2, ?_⟩
      walk_at "z12"
      exact hY
    · rw [if_neg (by omega)]
      rw [if_neg c] at hY
      walk_at "z12"
      exact hY
  · rintro e rfl
    have ea : (List.range xs.length).map (fun t : Nat => PyData.int (max 0 (xs.getD t 0 - if 0 < t then xs.getD (t - 1) 0 else 0))) = ((List.range xs.length).map fun t : Nat => max 0 (xs.getD t 0 - if 0 < t then xs.getD (t - 1) 0 else 0)).map PyData.int := by rw [List.map_map]; rfl
    rw [ea]
    walk_at "z12"
    rw [starts_sum]
    exact hR
end Sq
/-! Sq52: what layers cost is the least of plain slots -/
namespace Sq
open PySem PySem.Spec PyProof.Rows L2
/-- the plain slot of a need, price 1 -/
def plainW (top n : Int) : Wk := (n, top, n, List.replicate (top - n).toNat 1)
def plains (top : Int) (needs : List Int) : List Wk := needs.map (plainW top)
end Sq
/-! Sq53: all rows that serve; plain slots -/
namespace Sq
open PySem PySem.Spec PyProof.Rows L2
/-! ### all rows -/
def rowsF : List Wk → List (List Int)
  | ss => ss.foldl (fun found s => found.flatMap fun row => (List.range (s.2.1 + 1 - s.1).toNat).map fun k : Nat => row ++ [s.1 + (k : Int)]) [[]]
def F_plain_slot : FS := ⟨[.val, .val, .val], fun ds R => ∃ (need : Int) (most : Int) (price : Int), ds = [.int need, .int most, .int price] ∧ (need ≤ most ∧ most - need ≤ 1000 ∧ CMulB need price ∧ R 0 (wkD (need, most, need * price, List.replicate (most - need).toNat price)) [])⟩
theorem plain_slot_ms : F_plain_slot.ms = [.val, .val, .val] := rfl
theorem plain_slot_sp {need : Int} {most : Int} {price : Int} {R : Nat → D → List D → Prop} : F_plain_slot.sp [.int need, .int most, .int price] R = ((need ≤ most ∧ most - need ≤ 1000 ∧ CMulB need price ∧ R 0 (wkD (need, most, need * price, List.replicate (most - need).toNat price)) [])) := by
  apply propext
  constructor
  · rintro ⟨u'need, u'most, u'price, e, h⟩
    cases e
    exact h
  · intro h
    exact ⟨need, most, price, rfl, h⟩
def F__law_all_rows : FS := ⟨[.val], fun ds R => ∃ (ss : List Wk), ds = [.tuple (ss.map wkD)] ∧ ((∀ s ∈ ss, Wok s ∧ s.2.1 - s.1 ≤ 3 ∧ 0 ≤ s.1 ∧ s.2.1 ≤ 1000000) ∧ ss.length ≤ 8 ∧ R 0 (.list ((rowsF ss).map tupI)) [])⟩
theorem law_all_rows_ms : F__law_all_rows.ms = [.val] := rfl
theorem law_all_rows_sp {zz0 : List D} {R : Nat → D → List D → Prop} : F__law_all_rows.sp [.tuple zz0] R = (∃ (ss : List Wk), zz0 = (ss.map wkD) ∧ ((∀ s ∈ ss, Wok s ∧ s.2.1 - s.1 ≤ 3 ∧ 0 ≤ s.1 ∧ s.2.1 ≤ 1000000) ∧ ss.length ≤ 8 ∧ R 0 (.list ((rowsF ss).map tupI)) [])) := by
  apply propext
  constructor
  · rintro ⟨ss, e, h⟩
    cases e
    exact ⟨ss, rfl, h⟩
  · rintro ⟨ss, rfl, h⟩
    exact ⟨ss, rfl, h⟩
end Sq
/-! Sq54: least costs by layers and by steps; the same made great -/
namespace Sq
open PySem PySem.Spec PyProof.Rows L2
def stepsF (b need : Int) (steps : List Int) : List Int := (List.range steps.length).map fun y : Nat => if (y : Int) < need then 0 else min b (steps.getD y 0 + 1)
theorem tmps_all : ∀ xs : List D, tmpsK 0 (xs.map (Opd.tmp 0) ++ []) = some xs
  | [] => rfl
  | x :: r => by
    have ih := tmps_all r
    rw [List.append_nil] at *
    simp [tmpsK, ih]
def F__law_need_costs : FS := ⟨[.val, .val], fun ds R => ∃ (needs : List Int) (most : Int), ds = [.tuple (needs.map .int), .int most] ∧ ((∀ x ∈ needs, 0 ≤ x ∧ x ≤ most) ∧ most ≤ 1000 ∧ needs.length ≤ 1000 ∧ R 0 (.list ((plains most needs).map dW)) [])⟩
theorem law_need_costs_ms : F__law_need_costs.ms = [.val, .val] := rfl
theorem law_need_costs_sp {zz0 : List D} {most : Int} {R : Nat → D → List D → Prop} : F__law_need_costs.sp [.tuple zz0, .int most] R = (∃ (needs : List Int), zz0 = (needs.map .int) ∧ ((∀ x ∈ needs, 0 ≤ x ∧ x ≤ most) ∧ most ≤ 1000 ∧ needs.length ≤ 1000 ∧ R 0 (.list ((plains most needs).map dW)) [])) := by
  apply propext
  constructor
  · rintro ⟨needs, u'most, e, h⟩
    cases e
    exact ⟨needs, rfl, h⟩
  · rintro ⟨needs, rfl, h⟩
    exact ⟨needs, most, rfl, h⟩
def F_least_by_layers : FS := ⟨[.val, .val], fun ds R => ∃ (needs : List Int) (b : Int), ds = [.tuple (needs.map .int), .int b] ∧ (needs.length ≤ 10000 ∧ (∀ x ∈ needs, 0 ≤ x ∧ x ≤ 2 ^ 40) ∧ 0 ≤ b ∧ b ≤ 2 ^ 40 ∧ R 0 (.int (layersCost needs b)) [])⟩
theorem least_by_layers_ms : F_least_by_layers.ms = [.val, .val] := rfl
theorem least_by_layers_sp {zz0 : List D} {b : Int} {R : Nat → D → List D → Prop} : F_least_by_layers.sp [.tuple zz0, .int b] R = (∃ (needs : List Int), zz0 = (needs.map .int) ∧ (needs.length ≤ 10000 ∧ (∀ x ∈ needs, 0 ≤ x ∧ x ≤ 2 ^ 40) ∧ 0 ≤ b ∧ b ≤ 2 ^ 40 ∧ R 0 (.int (layersCost needs b)) [])) := by
  apply propext
  constructor
  · rintro ⟨needs, u'b, e, h⟩
    cases e
    exact ⟨needs, rfl, h⟩
  · rintro ⟨needs, rfl, h⟩
    exact ⟨needs, b, rfl, h⟩
def F_steps_behind : FS := ⟨[.val, .val, .val], fun ds R => ∃ (b : Int) (steps : List Int) (need : Int), ds = [.int b, .tuple (steps.map .int), .int need] ∧ (steps.length ≤ 1000 ∧ R 0 (.tuple ((stepsF b need steps).map .int)) [])⟩
theorem steps_behind_ms : F_steps_behind.ms = [.val, .val, .val] := rfl
theorem steps_behind_sp {b : Int} {zz1 : List D} {need : Int} {R : Nat → D → List D → Prop} : F_steps_behind.sp [.int b, .tuple zz1, .int need] R = (∃ (steps : List Int), zz1 = (steps.map .int) ∧ (steps.length ≤ 1000 ∧ R 0 (.tuple ((stepsF b need steps).map .int)) [])) := by
  apply propext
  constructor
  · rintro ⟨u'b, steps, u'need, e, h⟩
    cases e
    exact ⟨steps, rfl, h⟩
  · rintro ⟨steps, rfl, h⟩
    exact ⟨b, steps, need, rfl, h⟩
def F_least_by_steps : FS := ⟨[.val, .val], fun ds R => ∃ (b : Int) (needs : List Int), ds = [.int b, .tuple (needs.map .int)] ∧ (needs.length ≤ 1000 ∧ (∀ x ∈ needs, 0 ≤ x ∧ x ≤ 1000) ∧ 0 ≤ b ∧ R 0 (.int (layersCost needs b)) [])⟩
theorem least_by_steps_ms : F_least_by_steps.ms = [.val, .val] := rfl
theorem least_by_steps_sp {b : Int} {zz1 : List D} {R : Nat → D → List D → Prop} : F_least_by_steps.sp [.int b, .tuple zz1] R = (∃ (needs : List Int), zz1 = (needs.map .int) ∧ (needs.length ≤ 1000 ∧ (∀ x ∈ needs, 0 ≤ x ∧ x ≤ 1000) ∧ 0 ≤ b ∧ R 0 (.int (layersCost needs b)) [])) := by
  apply propext
  constructor
  · rintro ⟨u'b, needs, e, h⟩
    cases e
    exact ⟨needs, rfl, h⟩
  · rintro ⟨needs, rfl, h⟩
    exact ⟨b, needs, rfl, h⟩
end Sq
/-! Sq55: zip(.., strict=True) of tuples of one length (printed by genzip.py) -/
namespace SqZ
open PySem
open PySem.Sem (wp)
abbrev IsTup (h : Heap) (T : Addr) (vs : Array Value) : Prop := h.get? T = some { cls := .type "tuple", data := .seq vs }
section
variable {prog : Program} {w : World} {A : Around} {E : Value → Shared → Prop} {s : Shared}
structure Ap2 (z TI TO i1 i2 l1 l2 : Addr) : Prop where
  z_TO : z ≠ TO
  z_i1 : z ≠ i1
  z_i2 : z ≠ i2
  TI_z : TI ≠ z
  TI_TO : TI ≠ TO
  TI_i1 : TI ≠ i1
  TI_i2 : TI ≠ i2
  TO_z : TO ≠ z
  TO_i1 : TO ≠ i1
  TO_i2 : TO ≠ i2
  i1_z : i1 ≠ z
  i1_TO : i1 ≠ TO
  i1_i2 : i1 ≠ i2
  i2_z : i2 ≠ z
  i2_TO : i2 ≠ TO
  i2_i1 : i2 ≠ i1
  l1_z : l1 ≠ z
  l1_TO : l1 ≠ TO
  l1_i1 : l1 ≠ i1
  l1_i2 : l1 ≠ i2
  l2_z : l2 ≠ z
  l2_TO : l2 ≠ TO
  l2_i1 : l2 ≠ i1
  l2_i2 : l2 ≠ i2
set_option maxHeartbeats 4000000 in
structure Ap3 (z TI TO i1 i2 i3 l1 l2 l3 : Addr) : Prop where
  z_TO : z ≠ TO
  z_i1 : z ≠ i1
  z_i2 : z ≠ i2
  z_i3 : z ≠ i3
  TI_z : TI ≠ z
  TI_TO : TI ≠ TO
  TI_i1 : TI ≠ i1
  TI_i2 : TI ≠ i2
  TI_i3 : TI ≠ i3
  TO_z : TO ≠ z
  TO_i1 : TO ≠ i1
  TO_i2 : TO ≠ i2
  TO_i3 : TO ≠ i3
  i1_z : i1 ≠ z
  i1_TO : i1 ≠ TO
  i1_i2 : i1 ≠ i2
  i1_i3 : i1 ≠ i3
  i2_z : i2 ≠ z
  i2_TO : i2 ≠ TO
  i2_i1 : i2 ≠ i1
  i2_i3 : i2 ≠ i3
  i3_z : i3 ≠ z
  i3_TO : i3 ≠ TO
  i3_i1 : i3 ≠ i1
  i3_i2 : i3 ≠ i2
  l1_z : l1 ≠ z
  l1_TO : l1 ≠ TO
  l1_i1 : l1 ≠ i1
  l1_i2 : l1 ≠ i2
  l1_i3 : l1 ≠ i3
  l2_z : l2 ≠ z
  l2_TO : l2 ≠ TO
  l2_i1 : l2 ≠ i1
  l2_i2 : l2 ≠ i2
  l2_i3 : l2 ≠ i3
  l3_z : l3 ≠ z
  l3_TO : l3 ≠ TO
  l3_i1 : l3 ≠ i1
  l3_i2 : l3 ≠ i2
  l3_i3 : l3 ≠ i3
set_option maxHeartbeats 4000000 in
end
end SqZ
/-! Sq56: a dict held against an empty one; d.get(k, x) -/
namespace Sq
open PySem PySem.Spec PyProof.Rows L2
/-- d != {} -/
def oNeDict : OW
  | [(_, .dict es), (_, .dict [])], Q => plainD (.dict es) ∧ Q 0 (.bool (!es.isEmpty))
  | _, _ => False
theorem y_neDict {n m : Nat} {es : List (D × D)} {Q : Nat → D → Prop} : oNeDict [(n, .dict es), (m, .dict [])] Q = (plainD (.dict es) ∧ Q 0 (.bool (!es.isEmpty))) := rfl
section
variable {i k : Nat} {env : En} {Q : QE}
end
end Sq
/-! Sq57: works by hand of k13: worths, sums, what is held -/
namespace Sq
open PySem PySem.Spec PyProof.Rows L2
/-- a drawn work -/
structure Dw (w : Wk) : Prop where
  n0 : 0 ≤ w.1
  le : w.1 ≤ w.2.1
  hi : w.2.1 ≤ 1000000
  len : (w.2.2.2.length : Int) = w.2.1 - w.1
  few : w.2.1 - w.1 ≤ 10
  srt : w.2.2.2.Pairwise (· ≤ ·)
  sl : ∀ x ∈ w.2.2.2, -80000000000 ≤ x ∧ x ≤ 80000000000
  fst : -10000000000000 ≤ w.2.2.1 ∧ w.2.2.1 ≤ 10000000000000
def F__law_worths : FS := ⟨[.val], fun ds R => ∃ (w : Wk), ds = [wkD w] ∧ (Wok w ∧ w.2.1 - w.1 ≤ 1000 ∧ R 0 (dW w) [])⟩
theorem law_worths_ms : F__law_worths.ms = [.val] := rfl
theorem law_worths_sp {zz0 : D} {R : Nat → D → List D → Prop} : F__law_worths.sp [zz0] R = (∃ (w : Wk), zz0 = wkD w ∧ (Wok w ∧ w.2.1 - w.1 ≤ 1000 ∧ R 0 (dW w) [])) := by
  apply propext
  constructor
  · rintro ⟨w, e, h⟩
    cases e
    exact ⟨w, rfl, h⟩
  · rintro ⟨w, rfl, h⟩
    exact ⟨w, rfl, h⟩
def F__law_some_work : FS := ⟨[.io 2], fun ds R => ∃ (N : Nat) (src : D), ds = [src] ∧ (Src N src ∧ N ≤ 2 ^ 50 ∧ ∀ (w : Wk) (src' : D), Dw w → Src (N + 10030) src' → R 0 (wkD w) [src'])⟩
theorem law_some_work_ms : F__law_some_work.ms = [.io 2] := rfl
theorem law_some_work_sp {src : D} {R : Nat → D → List D → Prop} : F__law_some_work.sp [src] R = (∃ (N : Nat), (Src N src ∧ N ≤ 2 ^ 50 ∧ ∀ (w : Wk) (src' : D), Dw w → Src (N + 10030) src' → R 0 (wkD w) [src'])) := by
  apply propext
  constructor
  · rintro ⟨N, u'src, e, h⟩
    cases e
    exact ⟨N, h⟩
  · rintro ⟨N, h⟩
    exact ⟨N, src, rfl, h⟩
def F__law_added : FS := ⟨[.val, .val], fun ds R => ∃ (o : Wk) (p : Wk), ds = [wkD o, wkD p] ∧ (Wok o ∧ Wok p ∧ o.2.1 - o.1 ≤ 1000 ∧ p.2.1 - p.1 ≤ 1000 ∧ R 0 (optW (sumOf o p)) [])⟩
theorem law_added_ms : F__law_added.ms = [.val, .val] := rfl
theorem law_added_sp {zz0 : D} {zz1 : D} {R : Nat → D → List D → Prop} : F__law_added.sp [zz0, zz1] R = (∃ (o : Wk) (p : Wk), zz0 = wkD o ∧ zz1 = wkD p ∧ (Wok o ∧ Wok p ∧ o.2.1 - o.1 ≤ 1000 ∧ p.2.1 - p.1 ≤ 1000 ∧ R 0 (optW (sumOf o p)) [])) := by
  apply propext
  constructor
  · rintro ⟨o, p, e, h⟩
    cases e
    exact ⟨o, p, rfl, rfl, h⟩
  · rintro ⟨o, p, rfl, rfl, h⟩
    exact ⟨o, p, rfl, h⟩
def F__law_held : FS := ⟨[.val, .val, .val, .val], fun ds R => ∃ (w : Wk) (b : Int) (lo : Int) (hi : Int), ds = [wkD w, .int b, .int lo, .int hi] ∧ (Wok w ∧ Cvx w ∧ w.2.1 - w.1 ≤ 1000 ∧ 0 ≤ b ∧ b ≤ 2 ^ 60 ∧ lo ≤ hi ∧ Near lo ∧ Near hi ∧ hi - lo ≤ 1000 ∧ R 0 (wkD (heldW w b lo hi)) [])⟩
theorem law_held_ms : F__law_held.ms = [.val, .val, .val, .val] := rfl
theorem law_held_sp {zz0 : D} {b : Int} {lo : Int} {hi : Int} {R : Nat → D → List D → Prop} : F__law_held.sp [zz0, .int b, .int lo, .int hi] R = (∃ (w : Wk), zz0 = wkD w ∧ (Wok w ∧ Cvx w ∧ w.2.1 - w.1 ≤ 1000 ∧ 0 ≤ b ∧ b ≤ 2 ^ 60 ∧ lo ≤ hi ∧ Near lo ∧ Near hi ∧ hi - lo ≤ 1000 ∧ R 0 (wkD (heldW w b lo hi)) [])) := by
  apply propext
  constructor
  · rintro ⟨w, u'b, u'lo, u'hi, e, h⟩
    cases e
    exact ⟨w, rfl, h⟩
  · rintro ⟨w, rfl, h⟩
    exact ⟨w, b, lo, hi, rfl, h⟩
end Sq
/-! Sq58: texts of constants, put together once -/
namespace Sq
open PySem PySem.Spec PyProof.Rows L2
/-- a list of constants -/
def wLC (ds : List D) : WE := fun env Q => Q 1 (.list ds) env
theorem x_wLC (ds : List D) (env : En) (Q : QE) : wLC ds env Q = Q 1 (.list ds) env := rfl
end Sq
/-! Sq59: loops over zip(.., strict=True) of tuples (printed by genzip2.py) -/
namespace Sq
open PySem PySem.Spec PyProof.Rows L2 SqZ
def zipN2 (ds1 ds2 : List D) : List D := (List.range ds1.length).map fun i => .tuple [ds1.getD i .none, ds2.getD i .none]
end Sq
/-! Sq60: what rows cost -/
namespace Sq
open PySem PySem.Spec PyProof.Rows L2
theorem zip_ints {a b : List Int} (h : b.length = a.length) : zipN2 (a.map .int) (b.map .int) = (List.range a.length).map fun i : Nat => PyData.tuple [.int (a.getD i 0), .int (b.getD i 0)] := by
  unfold zipN2
  rw [List.length_map]
  refine List.map_congr_left fun i hi => ?_
  have hi := List.mem_range.mp hi
  have h2 : i < b.length := by omega
  simp [List.getD, hi, h2]
def servesB (ss : List Wk) (xs : List Int) : Bool := (List.range ss.length).all fun i => decide ((ss.getD i W0).1 ≤ xs.getD i 0 ∧ xs.getD i 0 ≤ (ss.getD i W0).2.1)
/-- the number ahead -/
def prevI (xs : List Int) (t : Nat) : Int := if 0 < t then xs.getD (t - 1) 0 else 0
def stopsS (xs : List Int) : Int := ((List.range xs.length).map fun t : Nat => max 0 (prevI xs t - xs.getD t 0)).sum
def F_slot_cost : FS := ⟨[.val, .val], fun ds R => ∃ (w : Wk) (x : Int), ds = [wkD w, .int x] ∧ (Wok w ∧ R 0 (optI (worthAt w x)) [])⟩
theorem slot_cost_ms : F_slot_cost.ms = [.val, .val] := rfl
theorem slot_cost_sp {zz0 : D} {x : Int} {R : Nat → D → List D → Prop} : F_slot_cost.sp [zz0, .int x] R = (∃ (w : Wk), zz0 = wkD w ∧ (Wok w ∧ R 0 (optI (worthAt w x)) [])) := by
  apply propext
  constructor
  · rintro ⟨w, u'x, e, h⟩
    cases e
    exact ⟨w, rfl, h⟩
  · rintro ⟨w, rfl, h⟩
    exact ⟨w, x, rfl, h⟩
def F_serves : FS := ⟨[.val, .val], fun ds R => ∃ (ss : List Wk) (xs : List Int), ds = [.tuple (ss.map wkD), .tuple (xs.map .int)] ∧ (xs.length = ss.length ∧ R 0 (.bool (servesB ss xs)) [])⟩
theorem serves_ms : F_serves.ms = [.val, .val] := rfl
theorem serves_sp {zz0 : List D} {zz1 : List D} {R : Nat → D → List D → Prop} : F_serves.sp [.tuple zz0, .tuple zz1] R = (∃ (ss : List Wk) (xs : List Int), zz0 = (ss.map wkD) ∧ zz1 = (xs.map .int) ∧ (xs.length = ss.length ∧ R 0 (.bool (servesB ss xs)) [])) := by
  apply propext
  constructor
  · rintro ⟨ss, xs, e, h⟩
    cases e
    exact ⟨ss, xs, rfl, rfl, h⟩
  · rintro ⟨ss, xs, rfl, rfl, h⟩
    exact ⟨ss, xs, rfl, h⟩
def F_starts : FS := ⟨[.val], fun ds R => ∃ (xs : List Int), ds = [.tuple (xs.map .int)] ∧ (xs.length ≤ 1000000 ∧ R 0 (.int (startsF 0 xs)) [])⟩
theorem starts_ms : F_starts.ms = [.val] := rfl
theorem starts_sp {zz0 : List D} {R : Nat → D → List D → Prop} : F_starts.sp [.tuple zz0] R = (∃ (xs : List Int), zz0 = (xs.map .int) ∧ (xs.length ≤ 1000000 ∧ R 0 (.int (startsF 0 xs)) [])) := by
  apply propext
  constructor
  · rintro ⟨xs, e, h⟩
    cases e
    exact ⟨xs, rfl, h⟩
  · rintro ⟨xs, rfl, h⟩
    exact ⟨xs, rfl, h⟩
def F_stops : FS := ⟨[.val], fun ds R => ∃ (xs : List Int), ds = [.tuple (xs.map .int)] ∧ (xs.length ≤ 1000000 ∧ R 0 (.int (stopsS xs)) [])⟩
theorem stops_ms : F_stops.ms = [.val] := rfl
theorem stops_sp {zz0 : List D} {R : Nat → D → List D → Prop} : F_stops.sp [.tuple zz0] R = (∃ (xs : List Int), zz0 = (xs.map .int) ∧ (xs.length ≤ 1000000 ∧ R 0 (.int (stopsS xs)) [])) := by
  apply propext
  constructor
  · rintro ⟨xs, e, h⟩
    cases e
    exact ⟨xs, rfl, h⟩
  · rintro ⟨xs, rfl, h⟩
    exact ⟨xs, rfl, h⟩
def F_running_cost : FS := ⟨[.val, .val], fun ds R => ∃ (ss : List Wk) (xs : List Int), ds = [.tuple (ss.map wkD), .tuple (xs.map .int)] ∧ (xs.length = ss.length ∧ (∀ s ∈ ss, Wok s) ∧ R 0 (if servesB ss xs then .int (worthS ss xs) else .none) [])⟩
theorem running_cost_ms : F_running_cost.ms = [.val, .val] := rfl
theorem running_cost_sp {zz0 : List D} {zz1 : List D} {R : Nat → D → List D → Prop} : F_running_cost.sp [.tuple zz0, .tuple zz1] R = (∃ (ss : List Wk) (xs : List Int), zz0 = (ss.map wkD) ∧ zz1 = (xs.map .int) ∧ (xs.length = ss.length ∧ (∀ s ∈ ss, Wok s) ∧ R 0 (if servesB ss xs then .int (worthS ss xs) else .none) [])) := by
  apply propext
  constructor
  · rintro ⟨ss, xs, e, h⟩
    cases e
    exact ⟨ss, xs, rfl, rfl, h⟩
  · rintro ⟨ss, xs, rfl, rfl, h⟩
    exact ⟨ss, xs, rfl, h⟩
def F_row_cost : FS := ⟨[.val, .val, .val], fun ds R => ∃ (ss : List Wk) (b : Int) (xs : List Int), ds = [.tuple (ss.map wkD), .int b, .tuple (xs.map .int)] ∧ (xs.length = ss.length ∧ (∀ s ∈ ss, Wok s) ∧ ss.length ≤ 1000000 ∧ Small b ∧ (startsF 0 xs).natAbs < 2 ^ 300 ∧ R 0 (if servesB ss xs then .int (worthS ss xs + b * startsF 0 xs) else .none) [])⟩
theorem row_cost_ms : F_row_cost.ms = [.val, .val, .val] := rfl
theorem row_cost_sp {zz0 : List D} {b : Int} {zz2 : List D} {R : Nat → D → List D → Prop} : F_row_cost.sp [.tuple zz0, .int b, .tuple zz2] R = (∃ (ss : List Wk) (xs : List Int), zz0 = (ss.map wkD) ∧ zz2 = (xs.map .int) ∧ (xs.length = ss.length ∧ (∀ s ∈ ss, Wok s) ∧ ss.length ≤ 1000000 ∧ Small b ∧ (startsF 0 xs).natAbs < 2 ^ 300 ∧ R 0 (if servesB ss xs then .int (worthS ss xs + b * startsF 0 xs) else .none) [])) := by
  apply propext
  constructor
  · rintro ⟨ss, u'b, xs, e, h⟩
    cases e
    exact ⟨ss, xs, rfl, rfl, h⟩
  · rintro ⟨ss, xs, rfl, rfl, h⟩
    exact ⟨ss, b, xs, rfl, h⟩
def F__law_some_row : FS := ⟨[.io 2, .val], fun ds R => ∃ (N : Nat) (src : D) (ss : List Wk), ds = [src, .tuple (ss.map wkD)] ∧ (Src N src ∧ N ≤ 2 ^ 50 ∧ (∀ s ∈ ss, s.1 ≤ s.2.1 ∧ s.2.1 - s.1 ≤ 1000) ∧ ss.length ≤ 1000 ∧ ∀ (xs : List Int) (src' : D), servesF ss xs → Src (N + 2000) src' → R 0 (.tuple (xs.map .int)) [src'])⟩
theorem law_some_row_ms : F__law_some_row.ms = [.io 2, .val] := rfl
theorem law_some_row_sp {src : D} {zz1 : List D} {R : Nat → D → List D → Prop} : F__law_some_row.sp [src, .tuple zz1] R = (∃ (N : Nat) (ss : List Wk), zz1 = (ss.map wkD) ∧ (Src N src ∧ N ≤ 2 ^ 50 ∧ (∀ s ∈ ss, s.1 ≤ s.2.1 ∧ s.2.1 - s.1 ≤ 1000) ∧ ss.length ≤ 1000 ∧ ∀ (xs : List Int) (src' : D), servesF ss xs → Src (N + 2000) src' → R 0 (.tuple (xs.map .int)) [src'])) := by
  apply propext
  constructor
  · rintro ⟨N, u'src, ss, e, h⟩
    cases e
    exact ⟨N, ss, rfl, h⟩
  · rintro ⟨N, ss, rfl, h⟩
    exact ⟨N, src, ss, rfl, h⟩
end Sq
/-! Sq61: bounds of prices -/
namespace Sq
open PySem PySem.Spec PyProof.Rows L2
def lowP (w : Wk) (p : Int) : Int := w.1 + (w.2.2.2.filter fun s => decide (s + p < 0)).length
def highP (w : Wk) (p : Int) : Int := w.1 + (w.2.2.2.filter fun s => decide (s + p ≤ 0)).length
def leastP (w : Wk) (d : Int) : Int := worthV w (lowP w d) + d * lowP w d
/-- the bound of prices -/
def priceD (ps : List Int) (t : Nat) : Int := ps.getD t 0 - ps.getD (t + 1) 0
def boundN (ss : List Wk) (ps : List Int) (n : Nat) : Int := ((List.range n).map fun t : Nat => leastP (ss.getD t W0) (priceD ps t)).sum
def boundS (ss : List Wk) (ps : List Int) : Int := boundN ss ps ss.length
def F_least_numbers : FS := ⟨[.val, .val], fun ds R => ∃ (w : Wk) (p : Int), ds = [wkD w, .int p] ∧ (R 0 (.tuple [.int (lowP w p), .int (highP w p)]) [])⟩
theorem least_numbers_ms : F_least_numbers.ms = [.val, .val] := rfl
theorem least_numbers_sp {zz0 : D} {p : Int} {R : Nat → D → List D → Prop} : F_least_numbers.sp [zz0, .int p] R = (∃ (w : Wk), zz0 = wkD w ∧ (R 0 (.tuple [.int (lowP w p), .int (highP w p)]) [])) := by
  apply propext
  constructor
  · rintro ⟨w, u'p, e, h⟩
    cases e
    exact ⟨w, rfl, h⟩
  · rintro ⟨w, rfl, h⟩
    exact ⟨w, p, rfl, h⟩
def F_bound_of : FS := ⟨[.val, .val, .val], fun ds R => ∃ (ss : List Wk) (b : Int) (ps : List Int), ds = [.tuple (ss.map wkD), .int b, .tuple (ps.map .int)] ∧ (ps.length = ss.length ∧ ss.length ≤ 1000 ∧ (∀ s ∈ ss, Wok s) ∧ (∀ p ∈ ps, -(2 ^ 50) ≤ p ∧ p ≤ 2 ^ 50) ∧ R 0 (.int (boundS ss ps)) [])⟩
theorem bound_of_ms : F_bound_of.ms = [.val, .val, .val] := rfl
theorem bound_of_sp {zz0 : List D} {b : Int} {zz2 : List D} {R : Nat → D → List D → Prop} : F_bound_of.sp [.tuple zz0, .int b, .tuple zz2] R = (∃ (ss : List Wk) (ps : List Int), zz0 = (ss.map wkD) ∧ zz2 = (ps.map .int) ∧ (ps.length = ss.length ∧ ss.length ≤ 1000 ∧ (∀ s ∈ ss, Wok s) ∧ (∀ p ∈ ps, -(2 ^ 50) ≤ p ∧ p ≤ 2 ^ 50) ∧ R 0 (.int (boundS ss ps)) [])) := by
  apply propext
  constructor
  · rintro ⟨ss, u'b, ps, e, h⟩
    cases e
    exact ⟨ss, ps, rfl, rfl, h⟩
  · rintro ⟨ss, ps, rfl, rfl, h⟩
    exact ⟨ss, b, ps, rfl, h⟩
def F__law_bound : FS := ⟨[.val, .val], fun ds R => ∃ (ss : List Wk) (ps : List Int), ds = [.tuple (ss.map wkD), .tuple (ps.map .int)] ∧ (ps.length = ss.length ∧ ss.length ≤ 1000 ∧ (∀ s ∈ ss, Wok s ∧ Cvx s ∧ s.2.1 - s.1 ≤ 1000) ∧ (∀ p ∈ ps, -(2 ^ 50) ≤ p ∧ p ≤ 2 ^ 50) ∧ R 0 (.int (boundS ss ps)) [])⟩
theorem law_bound_ms : F__law_bound.ms = [.val, .val] := rfl
theorem law_bound_sp {zz0 : List D} {zz1 : List D} {R : Nat → D → List D → Prop} : F__law_bound.sp [.tuple zz0, .tuple zz1] R = (∃ (ss : List Wk) (ps : List Int), zz0 = (ss.map wkD) ∧ zz1 = (ps.map .int) ∧ (ps.length = ss.length ∧ ss.length ≤ 1000 ∧ (∀ s ∈ ss, Wok s ∧ Cvx s ∧ s.2.1 - s.1 ≤ 1000) ∧ (∀ p ∈ ps, -(2 ^ 50) ≤ p ∧ p ≤ 2 ^ 50) ∧ R 0 (.int (boundS ss ps)) [])) := by
  apply propext
  constructor
  · rintro ⟨ss, ps, e, h⟩
    cases e
    exact ⟨ss, ps, rfl, rfl, h⟩
  · rintro ⟨ss, ps, rfl, rfl, h⟩
    exact ⟨ss, ps, rfl, h⟩
end Sq
/-! Sq62: the told best row, by layers, is the row from the lows of plain slots -/
namespace Sq
open PySem PySem.Spec PyProof.Rows L2
def inGap (p : Int × Int) (b t : Int) : Int := if p.2 ≤ b ∧ p.1 ≤ t ∧ t < p.1 + p.2 then 1 else 0
def cntG (ps : List (Int × Int)) (b t : Int) : Int := (ps.map fun p => inGap p b t).sum
def rowT (needs : List Int) (b : Int) (M : Nat) (t : Nat) : Int := needs.getD t 0 + ((List.range M).map fun k : Nat => cntG (pairs (onI needs ((k : Int) + 1))) b t).sum
def rowF (needs : List Int) (b : Int) : List Int := (List.range needs.length).map fun t => rowT needs b (topN needs).toNat t
end Sq
/-! Sq63: the told best row, by valleys and by gaps -/
namespace Sq
open PySem PySem.Spec PyProof.Rows L2
def addV (v : Int × Int × Int × Int) (b t : Int) : Int := if v.2.1 ≤ b ∧ v.1 ≤ t ∧ t < v.1 + v.2.1 then v.2.2.2 - v.2.2.1 else 0
def rowU (needs : List Int) (b : Int) : List Int := (List.range needs.length).map fun t : Nat => needs.getD t 0 + ((vals needs).map fun v => addV v b t).sum
/-! ### what changes -/
def F_best_by_layers : FS := ⟨[.val, .val], fun ds R => ∃ (needs : List Int) (b : Int), ds = [.tuple (needs.map .int), .int b] ∧ (needs.length ≤ 10000 ∧ (∀ x ∈ needs, 0 ≤ x) ∧ R 0 (.tuple ((rowU needs b).map .int)) [])⟩
theorem best_by_layers_ms : F_best_by_layers.ms = [.val, .val] := rfl
theorem best_by_layers_sp {zz0 : List D} {b : Int} {R : Nat → D → List D → Prop} : F_best_by_layers.sp [.tuple zz0, .int b] R = (∃ (needs : List Int), zz0 = (needs.map .int) ∧ (needs.length ≤ 10000 ∧ (∀ x ∈ needs, 0 ≤ x) ∧ R 0 (.tuple ((rowU needs b).map .int)) [])) := by
  apply propext
  constructor
  · rintro ⟨needs, u'b, e, h⟩
    cases e
    exact ⟨needs, rfl, h⟩
  · rintro ⟨needs, rfl, h⟩
    exact ⟨needs, b, rfl, h⟩
def F__law_best_row : FS := ⟨[.val, .val], fun ds R => ∃ (needs : List Int) (b : Int), ds = [.tuple (needs.map .int), .int b] ∧ (needs.length ≤ 1000 ∧ (∀ x ∈ needs, 0 ≤ x ∧ x ≤ 1000) ∧ R 0 (.tuple ((rowF needs b).map .int)) [])⟩
theorem law_best_row_ms : F__law_best_row.ms = [.val, .val] := rfl
theorem law_best_row_sp {zz0 : List D} {b : Int} {R : Nat → D → List D → Prop} : F__law_best_row.sp [.tuple zz0, .int b] R = (∃ (needs : List Int), zz0 = (needs.map .int) ∧ (needs.length ≤ 1000 ∧ (∀ x ∈ needs, 0 ≤ x ∧ x ≤ 1000) ∧ R 0 (.tuple ((rowF needs b).map .int)) [])) := by
  apply propext
  constructor
  · rintro ⟨needs, u'b, e, h⟩
    cases e
    exact ⟨needs, rfl, h⟩
  · rintro ⟨needs, rfl, h⟩
    exact ⟨needs, b, rfl, h⟩
end Sq
/-! Sq64: papers of best rows: the maths -/
namespace Sq
open PySem PySem.Spec PyProof.Rows L2
/-- p lies between the slopes of w about y -/
def Sub (w : Wk) (y p : Int) : Prop := (w.1 < y → slopeAt w (y - 1) ≤ p) ∧ (y < w.2.1 → p ≤ slopeAt w y)
def lowPr (b : Int) (w s : Wk) (x late : Int) : Int := if x < s.2.1 then max (if 0 < x then heldSlope w b (x - 1) else 0) (late - slopeAt s x) else if 0 < x then heldSlope w b (x - 1) else 0
def priceF (b : Int) (w s : Wk) (x y late : Int) : Int := if y < x then b else if x < y then 0 else lowPr b w s x late
structure PrOk (b : Int) (s : Wk) (x y late p : Int) : Prop where
  p0 : 0 ≤ p
  pb : p ≤ b
  up : x < s.2.1 → late - slopeAt s x ≤ p
  dn : s.1 < x → p ≤ late - slopeAt s (x - 1)
  st : y < x → p = b
  sp : x < y → p = 0
/-! ### works by their ticks -/
def wkAt (b : Int) (ss : List Wk) (t : Nat) : Wk := (W0 :: worksF b W0 ss).getD t W0
def sAt (ss : List Wk) (t : Nat) : Wk := ss.getD t W0
/-- where the row stands ahead of tick t -/
def yAt (xs : List Int) (t : Nat) : Int := if 0 < t then xs.getD (t - 1) 0 else 0
/-! ### prices, from the end -/
def prB (b : Int) (ss : List Wk) (xs : List Int) : Nat → Int
  | 0 => 0
  | k + 1 => let t := ss.length - (k + 1); priceF b (wkAt b ss t) (sAt ss t) (xs.getD t 0) (yAt xs t) (prB b ss xs k)
def pricesF (b : Int) (ss : List Wk) (xs : List Int) : List Int := (List.range ss.length).map fun t => prB b ss xs (ss.length - t)
structure PaperOk (b : Int) (ss : List Wk) (xs ps : List Int) : Prop where
  len : ps.length = ss.length
  sv : servesF ss xs
  pr : ∀ t, t < ss.length → PrOk b (sAt ss t) (xs.getD t 0) (yAt xs t) (ps.getD (t + 1) 0) (ps.getD t 0)
end Sq
/-! Sq65: ranges downwards; xs.index(x) -/
namespace Sq
open PySem PySem.Spec PyProof.Rows L2
/-! ### range(i, j, -1) -/
def rangeD (hi : Int) (n : Nat) : List D := (List.range n).map fun i => .int (hi - (i : Nat))
theorem items_rangeD {K : Frag} {G H : Hp} {fp : List Addr} {top : Int} {n : Nat} (z : n ≤ sizeLine) : ItemsOk K G H fp (Itc top (-1) n) (rangeD top n) := by
  have e : (rangeD top n).length = n := by simp [rangeD]
  refine ⟨by omega, (fun _ => True), (fun i H x H' => (H' = H ∧ x = .int (top + (i : Nat) * (-1))) ∧ i < n), ⟨fun i _ hi _ => by rw [e] at hi; exact hi, fun _ _ => by rw [e]; exact Nat.le_refl _, fun i _ _ _ hi _ y => ⟨y, by rw [e] at hi; exact hi⟩⟩, fun _ _ _ => trivial, ?_⟩
  rintro i G2 H2 x H3 st ⟨⟨rfl, rfl⟩, hi⟩
  refine ⟨Le.refl _, .int (top - (i : Nat)), by simp [rangeD, hi], ?_⟩
  have e2 : top + (i : Int) * -1 = top - (i : Int) := by omega
  rw [e2]
  exact .int _
def wiRange3 (a b c : WE) : WI := fun env Q => a env fun _ d e1 => ∃ i, d = .int i ∧ b e1 fun _ d' e2 => ∃ j, d' = .int j ∧ c e2 fun _ d'' e3 => d'' = .int (-1) ∧ (inB i ∧ inB j) ∧ i - j ≤ 16777216 ∧ Q (rangeD i (i - j).toNat) e3
theorem x_wiRange3 (a b c : WE) (env : En) (Q : (List D → En → Prop)) : (wiRange3 a b c env Q) = (a env fun _ d e1 => ∃ i, d = .int i ∧ b e1 fun _ d' e2 => ∃ j, d' = .int j ∧ c e2 fun _ d'' e3 => d'' = .int (-1) ∧ (inB i ∧ inB j) ∧ i - j ≤ 16777216 ∧ Q (rangeD i (i - j).toNat) e3) := rfl
section
variable {X : Cx} {p pos : Pos}
theorem snd_range3 {tg a b c : Expr} {wa wb wc : WE} (hg : Gl X "range") (hm : X.mg "range" = none) (ha : PE X a (rdE X.K wa)) (hb : PE X b (rdE X.K wb)) (hc : PE X c (rdE X.K wc)) (hs : starEach [a, b, c] X.env = (false, eval a X.env) :: starEach [b, c] X.env) (hs2 : starEach [b, c] X.env = (false, eval b X.env) :: starEach [c] X.env)
    (hs3 : starEach [c] X.env = (false, eval c X.env) :: starEach [] X.env) (hpl : (backTo pos (starEach [b, c] X.env)).any (·.1) = false) :
    PI X tg (.Call (.Name "range" p) [a, b, c] [] pos) (rdI X.K (wiRange3 wa wb wc)) :=
  pi_imp (pi_range3 hg hm (pa_cons ha (pa_cons hb (pa_cons hc pa_nil hs3) hs2) hs) hs hpl) fun σ H R ⟨G, L, env, f, P, sr, h, q⟩ => by
    refine ⟨G, L, env, f, _, sr, h, ?_⟩
    rintro n d e1 ⟨i, rfl, h1⟩ v G1 H1 f1 fv p1 r1
    cases (RepO.x r1).int
    refine ⟨G1, L, e1, f1, _, p1.sr, h1, ?_⟩
    rintro n d e2 ⟨j, rfl, h2⟩ v G2 H2 f2 fv2 p2 r2
    cases (RepO.x r2).int
    refine ⟨G2, L, e2, f2, _, p2.sr, h2, ?_⟩
    rintro n d e3 ⟨rfl, ⟨b1, b2⟩, hz, h3⟩ v G3 H3 f3 fv3 p3 r3
    cases (RepO.x r3).int
    exact ⟨i, j, -1, _, rfl, RgC.neg b1.1 b1.2 b2.1 b2.2, q _ e3 h3 _ G3 H3 f3 _ ((p1.seq p2).seq p3) (items_rangeD (by rw [sizeLine_eq]; omega))⟩
/-! ### xs.index(x) -/
/-- the first place of an equal one -/
def firstAt (ds : List D) (d : D) : Option Nat := ds.findIdx? fun z => PyData.eqv z d
def oIndex : OW
  | [(_, .list ds), (_, d)], Q => (SeqAt.shaped (.list ds) = true ∧ SeqAt.shaped d = true) ∧ ∃ j, firstAt ds d = some j ∧ Q 0 (.int (j : Nat))
  | _, _ => False
def isL : D → Prop
  | .list _ => True
  | _ => False
def wIdx (o a : WO) : WE := fun env Q => o env fun od e1 => fetch e1 od (fun _ d => isL d) ∧ a e1 fun oa e2 => fetchs e2 [od, oa] fun xs => oIndex xs fun n d => Q n d e2
theorem x_wIdx (o a : WO) (env : En) (Q : QE) : (wIdx o a env Q) = (o env fun od e1 => fetch e1 od (fun _ d => isL d) ∧ a e1 fun oa e2 => fetchs e2 [od, oa] fun xs => oIndex xs fun n d => Q n d e2) := rfl
theorem y_isL {ds : List D} : isL (.list ds) = True := rfl
theorem y_index {n m : Nat} {ds : List D} {d : D} {Q : Nat → D → Prop} : oIndex [(n, .list ds), (m, d)] Q = ((SeqAt.shaped (.list ds) = true ∧ SeqAt.shaped d = true) ∧ ∃ j, firstAt ds d = some j ∧ Q 0 (.int (j : Nat))) := rfl
end
end Sq
/-! Sq66: comprehensions over the keys of a frozen dict at a place -/
namespace Sq
open PySem PySem.Spec PyProof.Rows L2
section
variable {X : Cx}
end
/-- the keys of a frozen dict at a place -/
def wiKeysB (b : Bx) : WI := fun env Q => ∃ n d ks es, env[b.slot]? = some (some (.own n, d)) ∧ b.keys env = some ks ∧ dpath n d ks = some (0, .dict es) ∧ plainD (.dict es) ∧ Q (es.map (·.1)) env
section
variable {K : Frag} {H H' : Hp} {p : Addr} {kvs : List (Key × V)} {od : Obj}
end
section
variable {X : Cx} {e : Expr} {st : Stmt} {b : Bx} {A : Nat → Prop} {S : AS}
/-! y = [.. for x in d[k] ..] -/
end
/-! ### rewritings -/
theorem x_wiKeysB1 {j : Nat} {x : Kx} {env : En} {R : List D → En → Prop} : wiKeysB (.k (.s j) x) env R = ownAt env[j]? fun n d => ∃ key es, x.key env = some key ∧ child n d key = some (0, .dict es) ∧ plainD (.dict es) ∧ R (es.map (·.1)) env := by
  rw [← own_iff]
  apply propext
  constructor
  · rintro ⟨n, d, ks, es, e0, e1, e2, hp, h⟩
    obtain ⟨ks0, h0, h1⟩ := Option.bind_eq_some_iff.mp e1
    cases h0
    obtain ⟨key, h2, rfl⟩ := Option.map_eq_some_iff.mp h1
    refine ⟨n, d, e0, key, es, h2, ?_, hp, h⟩
    obtain ⟨⟨n1, d1⟩, h3, h4⟩ := Option.bind_eq_some_iff.mp e2
    cases h4
    exact h3
  · rintro ⟨n, d, e0, key, es, h1, h2, hp, h⟩
    exact ⟨n, d, [.key key], es, e0, by show Option.bind (some []) _ = _; simp [h1], by show (child n d key).bind _ = _; rw [h2]; rfl, hp, h⟩
end Sq
/-! Sq67: papers told and judged -/
namespace Sq
open PySem PySem.Spec PyProof.Rows L2
/-! ### what is a paper's fault -/
def formP (n : Nat) : D → Option (List Int × List Int)
  | .tuple [.tuple a, .tuple b] => match asInts a, asInts b with
    | some xs, some ps => if xs.length = n ∧ ps.length = n then some (xs, ps) else none
    | _, _ => none
  | _ => none
def gS (ss : List Wk) (xs : List Int) (t : Nat) : Bool := !decide ((sAt ss t).1 ≤ xs.getD t 0 ∧ xs.getD t 0 ≤ (sAt ss t).2.1)
def gP (b : Int) (ps : List Int) (t : Nat) : Bool := !decide (0 ≤ ps.getD t 0 ∧ ps.getD t 0 ≤ b)
def gL (ss : List Wk) (xs ps : List Int) (t : Nat) : Bool := !decide (lowP (sAt ss t) (priceD ps t) ≤ xs.getD t 0 ∧ xs.getD t 0 ≤ highP (sAt ss t) (priceD ps t))
def gB (b : Int) (xs ps : List Int) (t : Nat) : Bool := decide (yAt xs t < xs.getD t 0 ∧ ps.getD t 0 ≠ b)
def gE (xs ps : List Int) (t : Nat) : Bool := decide (xs.getD t 0 < yAt xs t ∧ ps.getD t 0 ≠ 0)
def firstD (n : Nat) : List (Str × (Nat → Bool)) → D
  | [] => .none
  | (w, f) :: r => match firstF f n with
    | some k => twoD w k
    | none => firstD n r
def faultP (b : Int) (ss : List Wk) (xs ps : List Int) : D := firstD ss.length [("serves", gS ss xs), ("price", gP b ps), ("least", gL ss xs ps), ("start", gB b xs ps), ("stop", gE xs ps)]
def faultV (b : Int) (ss : List Wk) (v : D) : D := match formP ss.length v with
  | some (xs, ps) => faultP b ss xs ps
  | none => .tuple [.str "form"]
/-! ### the texts -/
def F_span_of : FS := ⟨[.val, .val, .val], fun ds R => ∃ (s : Wk) (x : Int) (late : Int), ds = [wkD s, .int x, .int late] ∧ (Wok s ∧ s.1 ≤ x ∧ x ≤ s.2.1 ∧ R 0 (.tuple [if x < s.2.1 then .int (late - slopeAt s x) else .none, if s.1 < x then .int (late - slopeAt s (x - 1)) else .none]) [])⟩
theorem span_of_ms : F_span_of.ms = [.val, .val, .val] := rfl
theorem span_of_sp {zz0 : D} {x : Int} {late : Int} {R : Nat → D → List D → Prop} : F_span_of.sp [zz0, .int x, .int late] R = (∃ (s : Wk), zz0 = wkD s ∧ (Wok s ∧ s.1 ≤ x ∧ x ≤ s.2.1 ∧ R 0 (.tuple [if x < s.2.1 then .int (late - slopeAt s x) else .none, if s.1 < x then .int (late - slopeAt s (x - 1)) else .none]) [])) := by
  apply propext
  constructor
  · rintro ⟨s, u'x, u'late, e, h⟩
    cases e
    exact ⟨s, rfl, h⟩
  · rintro ⟨s, rfl, h⟩
    exact ⟨s, x, late, rfl, h⟩
def F_prices_for : FS := ⟨[.val, .val, .val], fun ds R => ∃ (ss : List Wk) (b : Int) (xs : List Int), ds = [.tuple (ss.map wkD), .int b, .tuple (xs.map .int)] ∧ ((∀ s ∈ ss, Wok s) ∧ Small b ∧ ss.length ≤ 100000 ∧ servesF ss xs ∧ R 0 (.tuple ((pricesF b ss xs).map .int)) [])⟩
theorem prices_for_ms : F_prices_for.ms = [.val, .val, .val] := rfl
theorem prices_for_sp {zz0 : List D} {b : Int} {zz2 : List D} {R : Nat → D → List D → Prop} : F_prices_for.sp [.tuple zz0, .int b, .tuple zz2] R = (∃ (ss : List Wk) (xs : List Int), zz0 = (ss.map wkD) ∧ zz2 = (xs.map .int) ∧ ((∀ s ∈ ss, Wok s) ∧ Small b ∧ ss.length ≤ 100000 ∧ servesF ss xs ∧ R 0 (.tuple ((pricesF b ss xs).map .int)) [])) := by
  apply propext
  constructor
  · rintro ⟨ss, u'b, xs, e, h⟩
    cases e
    exact ⟨ss, xs, rfl, rfl, h⟩
  · rintro ⟨ss, xs, rfl, rfl, h⟩
    exact ⟨ss, b, xs, rfl, h⟩
def F_paper_of : FS := ⟨[.val, .val], fun ds R => ∃ (ss : List Wk) (b : Int), ds = [.tuple (ss.map wkD), .int b] ∧ ((∀ s ∈ ss, Wok s) ∧ Small b ∧ ss.length ≤ 100000 ∧ servesF ss (bestF b (worksF b W0 ss)) ∧ R 0 (.tuple [.tuple ((bestF b (worksF b W0 ss)).map .int), .tuple ((pricesF b ss (bestF b (worksF b W0 ss))).map .int)]) [])⟩
theorem paper_of_ms : F_paper_of.ms = [.val, .val] := rfl
theorem paper_of_sp {zz0 : List D} {b : Int} {R : Nat → D → List D → Prop} : F_paper_of.sp [.tuple zz0, .int b] R = (∃ (ss : List Wk), zz0 = (ss.map wkD) ∧ ((∀ s ∈ ss, Wok s) ∧ Small b ∧ ss.length ≤ 100000 ∧ servesF ss (bestF b (worksF b W0 ss)) ∧ R 0 (.tuple [.tuple ((bestF b (worksF b W0 ss)).map .int), .tuple ((pricesF b ss (bestF b (worksF b W0 ss))).map .int)]) [])) := by
  apply propext
  constructor
  · rintro ⟨ss, u'b, e, h⟩
    cases e
    exact ⟨ss, rfl, h⟩
  · rintro ⟨ss, rfl, h⟩
    exact ⟨ss, b, rfl, h⟩
def F_is_integer : FS := ⟨[.val], fun ds R => ∃ (v : D), ds = [v] ∧ (plainD v ∧ R 0 (.bool (match v with | .int _ => true | _ => false)) [])⟩
theorem is_integer_ms : F_is_integer.ms = [.val] := rfl
theorem is_integer_sp {v : D} {R : Nat → D → List D → Prop} : F_is_integer.sp [v] R = ((plainD v ∧ R 0 (.bool (match v with | .int _ => true | _ => false)) [])) := by
  apply propext
  constructor
  · rintro ⟨u'v, e, h⟩
    cases e
    exact h
  · intro h
    exact ⟨v, rfl, h⟩
def F_are_integers : FS := ⟨[.val, .val], fun ds R => ∃ (v : D) (n : Int), ds = [v, .int n] ∧ (dpl v = true ∧ R 0 (.bool (match v with | .tuple ds => decide ((ds.length : Int) = n) && (asInts ds).isSome | _ => false)) [])⟩
theorem are_integers_ms : F_are_integers.ms = [.val, .val] := rfl
theorem are_integers_sp {v : D} {n : Int} {R : Nat → D → List D → Prop} : F_are_integers.sp [v, .int n] R = ((dpl v = true ∧ R 0 (.bool (match v with | .tuple ds => decide ((ds.length : Int) = n) && (asInts ds).isSome | _ => false)) [])) := by
  apply propext
  constructor
  · rintro ⟨u'v, u'n, e, h⟩
    cases e
    exact h
  · intro h
    exact ⟨v, n, rfl, h⟩
def F_first_where : FS := ⟨[.val, .val], fun ds R => ∃ (bs : List Bool) (w : Str), ds = [.list (bs.map .bool), .str w] ∧ (R 0 (match bs.findIdx? id with | some k => twoD w k | none => .none) [])⟩
theorem first_where_ms : F_first_where.ms = [.val, .val] := rfl
theorem first_where_sp {zz0 : List D} {w : Str} {R : Nat → D → List D → Prop} : F_first_where.sp [.list zz0, .str w] R = (∃ (bs : List Bool), zz0 = (bs.map .bool) ∧ (R 0 (match bs.findIdx? id with | some k => twoD w k | none => .none) [])) := by
  apply propext
  constructor
  · rintro ⟨bs, u'w, e, h⟩
    cases e
    exact ⟨bs, rfl, h⟩
  · rintro ⟨bs, rfl, h⟩
    exact ⟨bs, w, rfl, h⟩
def F_is_least : FS := ⟨[.val, .val, .val], fun ds R => ∃ (s : Wk) (x : Int) (p : Int), ds = [wkD s, .int x, .int p] ∧ (R 0 (.bool (decide (lowP s p ≤ x ∧ x ≤ highP s p))) [])⟩
theorem is_least_ms : F_is_least.ms = [.val, .val, .val] := rfl
theorem is_least_sp {zz0 : D} {x : Int} {p : Int} {R : Nat → D → List D → Prop} : F_is_least.sp [zz0, .int x, .int p] R = (∃ (s : Wk), zz0 = wkD s ∧ (R 0 (.bool (decide (lowP s p ≤ x ∧ x ≤ highP s p))) [])) := by
  apply propext
  constructor
  · rintro ⟨s, u'x, u'p, e, h⟩
    cases e
    exact ⟨s, rfl, h⟩
  · rintro ⟨s, rfl, h⟩
    exact ⟨s, x, p, rfl, h⟩
def F_judge_paper : FS := ⟨[.val, .val, .val], fun ds R => ∃ (ss : List Wk) (b : Int) (v : D), ds = [.tuple (ss.map wkD), .int b, v] ∧ (ss.length ≤ 1000 ∧ dpl v = true ∧ R 0 (faultV b ss v) [])⟩
theorem judge_paper_ms : F_judge_paper.ms = [.val, .val, .val] := rfl
theorem judge_paper_sp {zz0 : List D} {b : Int} {v : D} {R : Nat → D → List D → Prop} : F_judge_paper.sp [.tuple zz0, .int b, v] R = (∃ (ss : List Wk), zz0 = (ss.map wkD) ∧ (ss.length ≤ 1000 ∧ dpl v = true ∧ R 0 (faultV b ss v) [])) := by
  apply propext
  constructor
  · rintro ⟨ss, u'b, u'v, e, h⟩
    cases e
    exact ⟨ss, rfl, h⟩
  · rintro ⟨ss, rfl, h⟩
    exact ⟨ss, b, v, rfl, h⟩
end Sq
/-! Sq68: a paper's fault by a law's own look -/
namespace Sq
open PySem PySem.Spec PyProof.Rows L2
def F__law_price_fault : FS := ⟨[.val, .val, .val], fun ds R => ∃ (ss : List Wk) (b : Int) (v : D), ds = [.tuple (ss.map wkD), .int b, v] ∧ (ss.length ≤ 1000 ∧ (∀ s ∈ ss, Wok s ∧ Cvx s ∧ s.2.1 - s.1 ≤ 1000) ∧ dpl v = true ∧ (∀ xs ps, formP ss.length v = some (xs, ps) → (∀ x ∈ xs, Small x) ∧ ∀ p ∈ ps, Small p) ∧ R 0 (faultV b ss v) [])⟩
theorem law_price_fault_ms : F__law_price_fault.ms = [.val, .val, .val] := rfl
theorem law_price_fault_sp {zz0 : List D} {b : Int} {v : D} {R : Nat → D → List D → Prop} : F__law_price_fault.sp [.tuple zz0, .int b, v] R = (∃ (ss : List Wk), zz0 = (ss.map wkD) ∧ (ss.length ≤ 1000 ∧ (∀ s ∈ ss, Wok s ∧ Cvx s ∧ s.2.1 - s.1 ≤ 1000) ∧ dpl v = true ∧ (∀ xs ps, formP ss.length v = some (xs, ps) → (∀ x ∈ xs, Small x) ∧ ∀ p ∈ ps, Small p) ∧ R 0 (faultV b ss v) [])) := by
  apply propext
  constructor
  · rintro ⟨ss, u'b, u'v, e, h⟩
    cases e
    exact ⟨ss, rfl, h⟩
  · rintro ⟨ss, rfl, h⟩
    exact ⟨ss, b, v, rfl, h⟩
end Sq
/-! Sq69: the row from the lows costs the least; rows that go back by what is held -/
namespace Sq
open PySem PySem.Spec PyProof.Rows L2
theorem starts_bd {T : Int} (T0 : 0 ≤ T) : ∀ {xs : List Int} {p : Int}, 0 ≤ p → (∀ x ∈ xs, 0 ≤ x ∧ x ≤ T) → 0 ≤ startsF p xs ∧ startsF p xs ≤ xs.length * T
  | [], p, _, _ => by simp [startsF]
  | x :: r, p, hp, h => by
    have h0 := h x (by simp)
    have ih := starts_bd T0 (xs := r) h0.1 fun y hy => h y (by simp [hy])
    have e : ((x :: r).length : Int) * T = (r.length : Int) * T + T := by rw [List.length_cons, Int.natCast_add, Int.add_mul]; simp
    rw [e]
    simp only [startsF]
    omega
end Sq
/-! Sq70: repr of data that holds dicts -/
namespace Sq
open PySem PySem.Spec PyProof.Rows L2
section
variable {X : Cx} {pins : List (Addr × Obj)} {σ : L2.St} {G H : Hp} {s : Shared}
end
end Sq
/-! Sq71: odd values: how great they are -/
namespace Sq
open PySem PySem.Spec PyProof.Rows L2
mutual
def gdv : D → Bool
  | .int i => decide (i.natAbs < 10 ^ 60)
  | .str x => decide (x = "")
  | .list xs => gdvs xs
  | .tuple xs => gdvs xs
  | .dict es => es.isEmpty
  | _ => true
def gdvs : List D → Bool
  | [] => true
  | d :: ds => gdv d && gdvs ds
end
mutual
def cnt : D → Nat
  | .list xs => cnts xs + 1
  | .tuple xs => cnts xs + 1
  | _ => 1
def cnts : List D → Nat
  | [] => 0
  | d :: ds => cnt d + cnts ds
end
theorem gdvs_iff : ∀ {ds : List D}, gdvs ds = true ↔ ∀ d ∈ ds, gdv d = true
  | [] => by simp [gdvs]
  | d :: ds => by simp [gdvs, gdvs_iff (ds := ds)]
/-- good data, of depth n, c things -/
structure Gd (n c : Nat) (d : D) : Prop where
  ok : gdv d = true
  dep : d.depth ≤ n
  few : cnt d ≤ c
theorem Gd.mono {n c n' c' : Nat} {d : D} (h : Gd n c d) (hn : n ≤ n') (hc : c ≤ c') : Gd n' c' d := ⟨h.ok, Nat.le_trans h.dep hn, Nat.le_trans h.few hc⟩
theorem Gd.non : Gd 0 1 .none := ⟨rfl, Nat.le_refl _, Nat.le_refl _⟩
theorem Gd.bool (b : Bool) : Gd 0 1 (.bool b) := ⟨rfl, Nat.le_refl _, Nat.le_refl _⟩
theorem Gd.int {i : Int} (h : i.natAbs < 10 ^ 60) : Gd 0 1 (.int i) := ⟨by simpa [gdv] using h, Nat.le_refl _, Nat.le_refl _⟩
theorem Gd.row {n c : Nat} : ∀ {xs : List D}, (∀ x ∈ xs, Gd n c x) → gdvs xs = true ∧ PyData.depthAll xs ≤ n ∧ cnts xs ≤ xs.length * c
  | [], _ => ⟨rfl, Nat.zero_le _, Nat.zero_le _⟩
  | x :: xs, h => by
    obtain ⟨a, b, e⟩ := Gd.row fun y hy => h y (List.mem_cons_of_mem _ hy)
    have hx := h x List.mem_cons_self
    refine ⟨by simp [gdvs, hx.ok, a], ?_, ?_⟩
    · simp only [PyData.depthAll]; have := hx.dep; omega
    · simp only [cnts, List.length_cons, Nat.add_mul]; have := hx.few; omega
theorem Gd.tup {n c : Nat} {xs : List D} (h : ∀ x ∈ xs, Gd n c x) : Gd (n + 1) (xs.length * c + 1) (.tuple xs) := by
  obtain ⟨a, b, e⟩ := Gd.row h
  exact ⟨by simpa [gdv] using a, by simp only [PyData.depth]; omega, by simp only [cnt]; omega⟩
theorem Gd.lst {n c : Nat} {xs : List D} (h : ∀ x ∈ xs, Gd n c x) : Gd (n + 1) (xs.length * c + 1) (.list xs) := by
  obtain ⟨a, b, e⟩ := Gd.row h
  exact ⟨by simpa [gdv] using a, by simp only [PyData.depth]; omega, by simp only [cnt]; omega⟩
theorem Gd.ints {l : List Int} (h : ∀ x ∈ l, x.natAbs < 10 ^ 60) : ∀ x ∈ l.map PyData.int, Gd 0 1 x := fun x hx => by
  obtain ⟨z, hz, rfl⟩ := List.mem_map.mp hx
  exact Gd.int (h z hz)
theorem Gd.mem {n c : Nat} {ds : List D} (h : Gd n c (.tuple ds)) : ∀ d ∈ ds, gdv d = true := gdvs_iff.mp (by have := h.ok; simpa [gdv] using this)
end Sq
/-! Sq72: constants, folded where they are printed -/
namespace Sq
open PySem PySem.Spec PyProof.Rows L2
section
variable {X : Cx} {e : Expr}
end
end Sq
/-! Sq73: a need paper's fault by a law's own look, of odd values too -/
namespace Sq
open PySem PySem.Spec PyProof.Rows L2
def F__law_need_fault : FS := ⟨[.val, .val, .val, .val], fun ds R => ∃ (needs : List Int) (b : Int) (m : Int) (v : D), ds = [.tuple (needs.map .int), .int b, .int m, v] ∧ (needs.length ≤ 1000 ∧ (∀ x ∈ needs, 0 ≤ x ∧ x ≤ 2 ^ 40) ∧ 0 ≤ b ∧ b ≤ 2 ^ 40 ∧ dpl v = true ∧ (∀ ps, formD v = some ps → ps.length ≤ 100000 ∧ ∀ p ∈ ps, smallP p) ∧ R 0 (judgeV needs b m v) [])⟩
theorem law_need_fault_ms : F__law_need_fault.ms = [.val, .val, .val, .val] := rfl
theorem law_need_fault_sp {zz0 : List D} {b : Int} {m : Int} {v : D} {R : Nat → D → List D → Prop} : F__law_need_fault.sp [.tuple zz0, .int b, .int m, v] R = (∃ (needs : List Int), zz0 = (needs.map .int) ∧ (needs.length ≤ 1000 ∧ (∀ x ∈ needs, 0 ≤ x ∧ x ≤ 2 ^ 40) ∧ 0 ≤ b ∧ b ≤ 2 ^ 40 ∧ dpl v = true ∧ (∀ ps, formD v = some ps → ps.length ≤ 100000 ∧ ∀ p ∈ ps, smallP p) ∧ R 0 (judgeV needs b m v) [])) := by
  apply propext
  constructor
  · rintro ⟨needs, u'b, u'm, u'v, e, h⟩
    cases e
    exact ⟨needs, rfl, h⟩
  · rintro ⟨needs, rfl, h⟩
    exact ⟨needs, b, m, v, rfl, h⟩
end Sq
/-! Sq74: xs[::-1], xs a tuple -/
namespace Sq
open PySem PySem.Spec PyProof.Rows L2
section
variable {prog : Program} {w : World} {A : Around} {E : Value → Shared → Prop} {s : Shared}
end
section
variable {prog : Program} {w : World} {A : Around} {E : Value → Shared → Prop} {s : Shared}
end
section
variable {X : Cx} {e : Expr} {pos : Pos}
end
end Sq
/-! Sq75: {k: v for .. in .. if ..}: keys ints or texts, values frozen -/
namespace Sq
open PySem PySem.Spec PyProof.Rows L2
section
variable {K : Frag} {G H : Hp}
theorem RepFs.snoc {v : V} {d : D} (rv : RepF K G H v d) : ∀ {vs : List V} {ds : List D}, RepFs K G H vs ds → RepFs K G H (vs ++ [v]) (ds ++ [d])
  | _, _, .nil => .cons rv .nil
  | _, _, .cons r rs => .cons r (RepFs.snoc rv rs)
end
section
variable {K : Frag} {G G1 H H1 : Hp} {L : Addr → Prop} {σ : L2.St} {e1 : En} {f1 : Fps} {fv : List Addr}
end
section
variable {J : It} {n : Nat} {Gw : Hp → Prop} {Yw : Nat → Hp → V → Hp → Prop}
end
section
variable {X : Cx} {pos : Pos}
end
end Sq
/-! Sq76: sorted(d), d a dict of int keys -/
namespace Sq
open PySem PySem.Spec PyProof.Rows L2
section
variable {X : Cx}
end
end Sq
/-! Sq77: d.get(k, 0), xs[-1] = v -/
namespace Sq
open PySem PySem.Spec PyProof.Rows L2
section
variable {i : Nat} {wk : WE} {c : Int} {env : En} {Q : QE}
end
end Sq
/-! Sq78: dicts of ints to ints, as they are put and looked into -/
namespace Sq
open PySem PySem.Spec PyProof.Rows L2
end Sq
/-! Sq79: the layers of a row -/
namespace Sq
open PySem PySem.Spec PyProof.Rows L2
/-- ticks that are on at a height, and starts there -/
def onF (k : Int) (row : List Int) : Int := ((row.filter fun x => decide (k ≤ x)).length : Nat)
def stF (k : Int) : Int → List Int → Int
  | _, [] => 0
  | a, x :: r => (if a < k ∧ k ≤ x then 1 else 0) + stF k x r
def layR (row : List Int) : Int → List Int → List D
  | _, [] => []
  | low, h :: hs => .tuple [.int low, .int h, .int (onF h row), .int (stF h 0 row)] :: layR row h hs
/-- the heights of a row, rising -/
def Hts (row hs : List Int) : Prop := hs.Pairwise (· < ·) ∧ ∀ x, x ∈ hs ↔ x ∈ row ∧ 0 < x
def F_row_layers : FS := ⟨[.val], fun ds R => ∃ (row : List Int), ds = [.tuple (row.map .int)] ∧ (row.length ≤ 10000 ∧ (∀ x ∈ row, 0 ≤ x ∧ x ≤ 2 ^ 50) ∧ (∀ ks : List Int, ks.Nodup → (∀ x ∈ ks, x ∈ row ∧ 0 < x) → ks.length < 64) ∧ ∀ hs, Hts row hs → R 1 (.list (layR row 0 hs)) [])⟩
theorem row_layers_ms : F_row_layers.ms = [.val] := rfl
theorem row_layers_sp {zz0 : List D} {R : Nat → D → List D → Prop} : F_row_layers.sp [.tuple zz0] R = (∃ (row : List Int), zz0 = (row.map .int) ∧ (row.length ≤ 10000 ∧ (∀ x ∈ row, 0 ≤ x ∧ x ≤ 2 ^ 50) ∧ (∀ ks : List Int, ks.Nodup → (∀ x ∈ ks, x ∈ row ∧ 0 < x) → ks.length < 64) ∧ ∀ hs, Hts row hs → R 1 (.list (layR row 0 hs)) [])) := by
  apply propext
  constructor
  · rintro ⟨row, e, h⟩
    cases e
    exact ⟨row, rfl, h⟩
  · rintro ⟨row, rfl, h⟩
    exact ⟨row, rfl, h⟩
end Sq
/-! Sq80: the heights of a row: there, and but one -/
namespace Sq
open PySem PySem.Spec PyProof.Rows L2
end Sq
/-! Sq81: what layers pay -/
namespace Sq
open PySem PySem.Spec PyProof.Rows L2
end Sq
/-! Sq82: layers' costs tick by tick; rows turned about, raised, joined, dearer starts -/
namespace Sq
open PySem PySem.Spec PyProof.Rows L2
/-- what a start costs behind a state: never on yet; so many ticks off -/
def stC (b : Int) : Option Int → Int
  | none => b
  | some j => min j b
def upS (n : Int) : Option Int → Option Int
  | none => none
  | some j => some (j + n)
/-- what a layer's starts cost from a state on -/
def layC (b k : Int) : Option Int → List Int → Int
  | _, [] => 0
  | s, x :: r => if k ≤ x then stC b s + layC b k (some 0) r else layC b k (upS 1 s) r
/-- the state behind a row -/
def runS (k : Int) : Option Int → List Int → Option Int
  | s, [] => s
  | s, x :: r => if k ≤ x then runS k (some 0) r else runS k (upS 1 s) r
/-- the state that a last tick on tells -/
def lastS (t : Int) : Option Int → Option Int
  | none => none
  | some a => some (t - a - 1)
theorem lay_from {b k : Int} (b0 : 0 ≤ b) : ∀ {r done : List Int}, (if onI (done ++ r) k = [] then 0 else b) + costP (done ++ r) b k = (if onI done k = [] then 0 else b) + costP done b k + layC b k (lastS done.length (onI done k).getLast?) r
  | [], done => by simp [layC]
  | x :: r, done => by
    have ih := lay_from b0 (k := k) (r := r) (done := done ++ [x])
    rw [List.append_assoc, List.singleton_append, costP_snoc, onI_snoc, List.length_append, List.length_singleton] at ih
    rw [ih]
    simp only [layC]
    by_cases h : k ≤ x
    · simp only [if_pos h]
      rw [if_neg (by simp), List.getLast?_append, List.getLast?_singleton]
      have e0 : lastS ((done.length + 1 : Nat) : Int) (some (done.length : Int)) = some 0 := by
        show some _ = _
        congr 1
        omega
      simp only [Option.some_or, e0]
      cases hl : (onI done k).getLast? with
      | none =>
        rw [List.getLast?_eq_none_iff.mp hl, if_pos rfl]
        simp only [gapOf, lastS, stC]
        omega
      | some a =>
        have ha := onI_mem (List.mem_of_getLast? hl)
        have ne : onI done k ≠ [] := fun e => by rw [e] at hl; cases hl
        rw [if_neg ne]
        simp only [gapOf, lastS, stC]
        split <;> omega
    · simp only [if_neg h, List.append_nil]
      have e1 : lastS ((done.length + 1 : Nat) : Int) (onI done k).getLast? = upS 1 (lastS (done.length : Int) (onI done k).getLast?) := by
        cases (onI done k).getLast? with
        | none => rfl
        | some a =>
          show some _ = some _
          congr 1
          omega
      rw [e1]
      omega
theorem lay_cost {b k : Int} (b0 : 0 ≤ b) {row : List Int} : (if onI row k = [] then 0 else b) + costP row b k = layC b k none row := by
  have := lay_from b0 (k := k) (r := row) (done := [])
  have e : onI [] k = [] := rfl
  have e2 : costP [] b k = 0 := rfl
  rw [List.nil_append, e, e2] at this
  simpa [lastS] using this
theorem lay_off {b k : Int} : ∀ {s : Option Int} {r : List Int}, (∀ x ∈ r, x < k) → layC b k s r = 0
  | _, [], _ => rfl
  | s, x :: r, h => by
    have := h x (by simp)
    simp only [layC]
    rw [if_neg (by omega), lay_off fun y hy => h y (by simp [hy])]
theorem upC_congr {f g : Int → Int} {low : Int} {n : Nat} (h : ∀ k, low < k → k ≤ low + n → f k = g k) : upTo f low n = upTo g low n := by
  unfold upTo
  congr 1
  refine List.map_congr_left fun i hi => ?_
  have hi := List.mem_range.mp hi
  exact h _ (by omega) (by omega)
theorem upC_zero {f : Int → Int} {low : Int} {n : Nat} (h : ∀ k, low < k → k ≤ low + n → f k = 0) : upTo f low n = 0 := by
  rw [upC_congr h]
  unfold upTo
  induction n with
  | zero => rfl
  | succ n ih =>
    rw [List.range_succ, List.map_append, List.sum_append]
    simp
    simpa using ih fun k a b => h k a (by omega)
theorem upC_mono {f g : Int → Int} {low : Int} : ∀ {n : Nat}, (∀ k, low < k → k ≤ low + n → f k ≤ g k) → upTo f low n ≤ upTo g low n
  | 0, _ => Int.le_refl _
  | n + 1, h => by
    have ih := upC_mono (f := f) (g := g) (low := low) (n := n) fun k a b => h k a (by omega)
    have := h (low + n + 1) (by omega) (by omega)
    rw [upTo_add, upTo_add]
    have e : ∀ f : Int → Int, upTo f (low + n) 1 = f (low + n + 1) := fun f => by
      unfold upTo
      simp
    rw [e, e]
    omega
theorem fold_in2 : ∀ {l : List Int} {i : Int}, l.foldl max i = i ∨ l.foldl max i ∈ l
  | [], i => .inl rfl
  | x :: l, i => by
    show l.foldl max (max i x) = i ∨ l.foldl max (max i x) ∈ x :: l
    rcases fold_in2 (l := l) (i := max i x) with h | h
    · rw [h]
      by_cases c : i < x
      · exact .inr (by rw [show max i x = x by omega]; simp)
      · exact .inl (by omega)
    · exact .inr (List.mem_cons_of_mem _ h)
theorem top_in {row : List Int} (h : 0 < topN row) : topN row ∈ row := by
  unfold topN at h ⊢
  rcases fold_in2 (l := 0 :: row) (i := 0) with e | e
  · omega
  · rcases List.mem_cons.mp e with e | e
    · omega
    · exact e
theorem on_ne {row : List Int} {k x : Int} (hx : x ∈ row) (h : k ≤ x) : onI row k ≠ [] := fun e => by
  obtain ⟨t, ht, et⟩ := List.getElem_of_mem hx
  have : (t : Int) ∈ onI row k := by
    unfold onI
    refine List.mem_filterMap.mpr ⟨t, List.mem_range.mpr ht, ?_⟩
    have e2 : row.getD t 0 = x := by rw [List.getD_eq_getElem?_getD, List.getElem?_eq_getElem ht]; exact et
    rw [e2, if_pos h]
  rw [e] at this
  cases this
/-- the cost by layers, each tick by tick -/
theorem lay_eq {row : List Int} {b : Int} (b0 : 0 ≤ b) {M : Nat} (hM : topN row ≤ M) : layersCost row b = row.sum + upTo (fun k => layC b k none row) 0 M := by
  have top := topN_le row
  rw [cost_eq]
  congr 1
  have e : M = (topN row).toNat + (M - (topN row).toNat) := by omega
  rw [e, upTo_add]
  have z : upTo (fun k => layC b k none row) (0 + ((topN row).toNat : Nat)) (M - (topN row).toNat) = 0 := upC_zero fun k h1 _ => lay_off fun x hx => by
    have := top.2 x hx
    omega
  rw [z, Int.add_zero]
  refine upC_congr fun k h1 h2 => ?_
  rw [← lay_cost b0, if_neg (on_ne (top_in (by omega)) (by omega))]
end Sq
/-! Sq83: valleys and costs of a row turned about; the layers of a raised row -/
namespace Sq
open PySem PySem.Spec PyProof.Rows L2
/-! the layers of a row without a 0 -/
end Sq
/-! Sq84: an own exception class over a class over ValueError, whose __init__ says super().__init__(text) and stores one field -/
namespace Sq
open PySem PySem.Spec PyProof.Rows L2 NdefX
/-- what the module has of the class at C, its __init__ at f, what K tells -/
structure XcC (K : Frag) (C : Addr) : Prop where
  o : OexC K C
  sup : PySem.W.ks_superIn K C C "__init__" = some (some (.builtin "ValueError.__init__"))
  ve : PySem.W.subIn K (.ref C) (.type "ValueError") = some true
  me : PySem.W.mroIn K C (.ref C) = some true
section
variable {CX : CXT} {P : Program} {w : World} {K : Frag} {mg : Str → Option Value} {base : Heap} {N ps : List Str} {name qual : Str} {params : Arguments} {body : List Stmt} {scope : Scope} {f cc cda C a : Addr} {A : Around} {outer : List Env} {s0 s : Shared} {H0 H : Hp} {E0 : XK} {E : Value → Shared → Prop}
  {pins : List (Addr × Obj)} {σ : L2.St} {dV kV doc pm ct oc : Value} {an od : Option Addr} {osl : Array (Option Value)} {ar : Arg} {ccl cl : Value} {cdd cld : Option Addr} {ccs csl : Array (Option Value)} {vs : Array Value} {file : Str} {tf : Tok}
  {p0 p1 p2 p3 p4 p5 : Pos} {m : Str} {j : Nat} {Q : Flow → Shared → Prop}
/-- what C.__init__ keeps: the object at a, then the part -/
def spI (K : Frag) (C : Addr) (g : Str) : Sp := fun vs H Q _ => ∃ (a : Addr) (y : V), vs = [.ref a, y] ∧ PySem.W.findIn K (.ref C) g = some none ∧ H a = some (exo a C none) ∧ (g = "path" → ∃ p xs, y = .ref p ∧ SqT K H p xs) ∧
  ∀ dx, H dx = none → dx ≠ a → Q .non (upd (upd H dx (exd dx [(g, y)])) a (exo a C (some dx)))
end
section
variable {X : Cx} {CX : CXT} {e : Expr} {te : TE} {p pos pos' : Pos} {C fI : Addr} {k : Nat} {fd : FuncData} {ps : List Str} {c g : Str}
end
end Sq
/-! Sq85: defs that may raise an own exception with a part; raise; try: .. except C as e: return [.., e.part] -/
namespace Sq
open PySem PySem.Spec PyProof.Rows L2 NdefX
/-- what a def says that may raise -/
structure FX where
  ms : List PM
  sp : List D → (Nat → D → List D → Prop) → (Str → D → Prop) → Prop
def endX (ms : List PM) (R : Nat → D → List D → Prop) (Y : Str → D → Prop) : K4 where
  nx := fun e => ∃ os, ioAt ms e os ∧ R 0 .none os
  rt := fun k z e => ∃ os, ioAt ms e os ∧ R k z os
  bk := fun _ => False
  ct := fun _ => False
  ex := fun c z _ => Y c z
def spX (K : Frag) (mg : Str → Option Value) (F : FX) : Sp := fun vs H Q E => ∃ (G : Hp) (L : Addr → Prop) (ds : List D) (f : Fps) (R : Nat → D → List D → Prop) (Y : Str → D → Prop), vs.length = F.ms.length ∧ SR K G H L (vs.map some) (entE F.ms ds) f ∧ F.sp ds R Y ∧
  (∀ k z outs, R k z outs → ∀ v G' H' f' fv, Post K G H L (vs.map some) (Owns f) G' H' (outE F.ms outs) f' fv → RepO K G' H' (At H') k v z fv → Q v H') ∧
  (∀ c z, Y c z → ∀ C dd G' H' f', Post K G H L (vs.map some) (Owns f) G' H' (outE F.ms []) f' [] → mg c = some (.ref C) → ExcD K G' H' c z dd → E (.ref C) dd H')
structure FnXG (P : Program) (w : World) (K : Frag) (mg : Str → Option Value) (base : Heap) (k : Nat) (f : Addr) (fd : FuncData) (ps : List Str) (sp : Sp) : Prop where
  len : ∀ vs H Q E, sp vs H Q E → vs.length = ps.length
  run : ∀ (A : Around) (up : List Env) (s : Shared) (H : Hp) (args : Args) (us : List Value) (vs : List V) (Q : VK) (E : XK), Room k A → A.guards = some [] → Env0 P w K mg base A up s H → BindsTo s fd args (ps.zip us) →
    Vals vs us → sp vs H Q E → codeAny (model P w) A (.call (.ref f) args) (CR (L2.CX P w) up P w H s Q E) s
theorem FnXG.mono {P : Program} {w : World} {K : Frag} {mg : Str → Option Value} {base : Heap} {j k : Nat} {f : Addr} {fd : FuncData} {ps : List Str} {sp : Sp} (F : FnXG P w K mg base j f fd ps sp) (h : j ≤ k) : FnXG P w K mg base k f fd ps sp :=
  ⟨F.len, fun A up s H args us vs Q E hr => F.run A up s H args us vs Q E (hr.mono h)⟩
section
variable {P : Program} {w : World} {K : Frag} {mg : Str → Option Value} {base : Heap} {k : Nat} {f : Addr} {name qual : Str} {params : Arguments} {body : List Stmt} {scope : Scope} {dV kV doc pm cdv ct oc : Value} {an od : Option Addr} {osl : Array (Option Value)} {N ps : List Str} {sp : Sp}
end
/-- a def that may be called by its name, and may raise -/
structure CalX (P : Program) (w : World) (K : Frag) (mg : Str → Option Value) (base : Heap) (k : Nat) (x : Str) (F : FX) : Prop where
  ex : ∃ (f : Addr) (fd : FuncData) (ps : List Str), FnXG P w K mg base k f fd ps (spX K mg F) ∧ mg x = some (.ref f) ∧ PySem.W.keepIn K (.ref f) = true ∧ Binds K fd ps []
theorem CalX.mono {P : Program} {w : World} {K : Frag} {mg : Str → Option Value} {base : Heap} {j k : Nat} {x : Str} {F : FX} (c : CalX P w K mg base j x F) (h : j ≤ k) : CalX P w K mg base k x F := by
  obtain ⟨f, fd, ps, q, r⟩ := c.ex
  exact ⟨f, fd, ps, q.mono h, r⟩
def wCX (F : FX) (wa : WA) (env : En) (Q : QE) (Y : Str → D → En → Prop) : Prop := wa env fun os e1 => ∃ xs, argsAt e1 F.ms os = some xs ∧ okAX xs = true ∧
  F.sp (xs.map (·.1)) (fun k z outs => Q k z (putO e1 (xs.map (·.2.1)) (outE F.ms outs))) (fun c z => Y c z (putO e1 (xs.map (·.2.1)) (outE F.ms [])))
def wRetX (F : FX) (wa : WA) : WS := fun env P => wCX F wa env P.rt P.ex
def wExpX (F : FX) (wa : WA) : WS := fun env P => wCX F wa env (fun _ _ e => P.nx e) P.ex
def wSetX (F : FX) (wa : WA) (i : Nat) : WS := fun env P => wCX F wa env (fun n d e => i < e.length ∧ P.nx (e.set i (some (.own n, d)))) P.ex
section
variable {X : Cx} {S : AS} {F : FX} {wa : WA} {k : Nat} {x : Str} {p pos pos' : Pos} {e : Expr} {es : List Expr} {W : WX} {t : TA}
end
/-! ### raise -/
def wRaise (c : Str) (w : WE) : WS := fun env P => w env fun n d e1 => (n = 0 ∨ isLeaf d = true) ∧ (partOf c = "path" → ∃ ds, d = .tuple ds) ∧ P.ex c d e1
/-- an own exception class that may be raised by its name -/
structure CalE (P : Program) (w : World) (K : Frag) (mg : Str → Option Value) (base : Heap) (k : Nat) (c : Str) : Prop where
  ex : ∃ (C fI : Addr) (fd : FuncData) (ps : List Str), OexC K C ∧ PySem.W.findIn K (.ref C) "__init__" = some (some (.ref fI)) ∧ PySem.W.typeIn K (.ref fI) = some (.type "function") ∧
    FnOk P w K mg base (L2.CX P w) k fI fd ps (spI K C (partOf c)) ∧ Binds K fd ps [] ∧ mg c = some (.ref C) ∧ PySem.W.findIn K (.ref C) (partOf c) = some none
theorem CalE.mono {P : Program} {w : World} {K : Frag} {mg : Str → Option Value} {base : Heap} {j k : Nat} {c : Str} (h : CalE P w K mg base j c) (hj : j ≤ k) : CalE P w K mg base k c := by
  obtain ⟨C, fI, fd, ps, a, b, d, e, r⟩ := h.ex
  exact ⟨C, fI, fd, ps, a, b, d, e.mono hj, r⟩
section
variable {X : Cx} {S : AS} {k : Nat} {c : Str} {p pos pos' : Pos} {e : Expr} {w : WE}
end
/-! ### try: .. except C as e: return [.., e.part] -/
def wTryR (c : Str) (cs : List Str) (i : Nat) (b : WS) : WS := fun env P => (i < env.length ∧ cs.length < 100) ∧ b env { P with ex := fun c' z e => c' = c ∧ P.rt 1 (.list (cs.map .str ++ [z])) e }
section
variable {X : Cx} {S : AS} {c n g : Str} {i : Nat} {C : Addr} {cs : List Str} {body : List Stmt} {elts : List Expr} {np pos pos' lp rp : Pos} {b : WS} {ta : Addr → Value → Option Addr → TA}
/-- what K tells of the class, for its field to be read where it is caught -/
structure CalH (K : Frag) (mg : Str → Option Value) (c g : Str) : Prop where
  ex : ∃ C, mg c = some (.ref C) ∧ PySem.W.exmOne K (.ref C) (.ref C) = some true ∧ XfC K C ∧ PySem.W.findIn K (.ref C) g = some none ∧ partOf c = g ∧ g ≠ ""
end
end Sq
/-! Sq86: what K tells of an own exception class, put together -/
namespace Sq
open PySem PySem.Spec PyProof.Rows L2 NdefX
/-- the k-th statement of a class's body -/
def inI (k : Nat) : Stmt → Stmt
  | .ClassDef _ _ _ b _ _ _ _ _ _ _ => b.getD k (.Pass ⟨0, 0, 0, 0⟩)
  | _ => .Pass ⟨0, 0, 0, 0⟩
section
variable {X : Cx} {p q r : Pos} {y g : Str}
end
end Sq
/-! Sq87: a def that calls itself: the promise that is never asked; x in a tuple -/
namespace Sq
open PySem PySem.Spec PyProof.Rows L2
/-! ### x in a tuple -/
section
variable {X : Cx}
def oInTp : OW
  | [(_, d), (_, .tuple ds)], Q => (SeqAt.shaped d = true ∧ SeqAt.shaped (.tuple ds) = true) ∧ Q 0 (.bool (ds.any fun z => PyData.eqv z d))
  | _, _ => False
def oNinTp : OW
  | [(_, d), (_, .tuple ds)], Q => (SeqAt.shaped d = true ∧ SeqAt.shaped (.tuple ds) = true) ∧ Q 0 (.bool (!ds.any fun z => PyData.eqv z d))
  | _, _ => False
theorem y_inTp {n m : Nat} {d : D} {ds : List D} {Q : Nat → D → Prop} : oInTp [(n, d), (m, .tuple ds)] Q = ((SeqAt.shaped d = true ∧ SeqAt.shaped (.tuple ds) = true) ∧ Q 0 (.bool (ds.any fun z => PyData.eqv z d))) := rfl
theorem y_ninTp {n m : Nat} {d : D} {ds : List D} {Q : Nat → D → Prop} : oNinTp [(n, d), (m, .tuple ds)] Q = ((SeqAt.shaped d = true ∧ SeqAt.shaped (.tuple ds) = true) ∧ Q 0 (.bool (!ds.any fun z => PyData.eqv z d))) := rfl
/-! ### t == (), whatever the tuple holds -/
def oEqEt : OW
  | [(_, .tuple xs), (_, .tuple [])], Q => Q 0 (.bool xs.isEmpty)
  | _, _ => False
theorem y_eqEt {n m : Nat} {xs : List D} {Q : Nat → D → Prop} : oEqEt [(n, .tuple xs), (m, .tuple [])] Q = Q 0 (.bool xs.isEmpty) := rfl
end
/-! ### rewritings of what may raise -/
theorem x_wRaise {c : Str} {w : WE} {env : En} {P : K4} : wRaise c w env P = w env fun n d e1 => (n = 0 ∨ isLeaf d = true) ∧ (partOf c = "path" → ∃ ds, d = .tuple ds) ∧ P.ex c d e1 := rfl
theorem x_wRetX {F : FX} {wa : WA} {env : En} {P : K4} : wRetX F wa env P = wCX F wa env P.rt P.ex := rfl
theorem x_wExpX {F : FX} {wa : WA} {env : En} {P : K4} : wExpX F wa env P = wCX F wa env (fun _ _ e => P.nx e) P.ex := rfl
theorem x_wSetX {F : FX} {wa : WA} {i : Nat} {env : En} {P : K4} : wSetX F wa i env P = wCX F wa env (fun n d e => i < e.length ∧ P.nx (e.set i (some (.own n, d)))) P.ex := rfl
theorem x_wCX {F : FX} {wa : WA} {env : En} {Q : QE} {Y : Str → D → En → Prop} : wCX F wa env Q Y = wa env fun os e1 => ∃ xs, argsAt e1 F.ms os = some xs ∧ okAX xs = true ∧
  F.sp (xs.map (·.1)) (fun k z outs => Q k z (putO e1 (xs.map (·.2.1)) (outE F.ms outs))) (fun c z => Y c z (putO e1 (xs.map (·.2.1)) (outE F.ms []))) := rfl
theorem x_wTryR {c : Str} {cs : List Str} {i : Nat} {b : WS} {env : En} {P : K4} : wTryR c cs i b env P = ((i < env.length ∧ cs.length < 100) ∧ b env { P with ex := fun c' z e => c' = c ∧ P.rt 1 (.list (cs.map .str ++ [z])) e }) := rfl
end Sq
/-! Sq88: objects: fields read and stored, methods called, objects made -/
namespace Sq
open PySem PySem.Spec PyProof.Rows L2
/-! ### fields read -/
theorem tKx_mono {K : Frag} : ∀ (x : Kx) {σ : L2.St} {H : Hp} {Q Q' : VK}, (∀ v H, Q v H → Q' v H) → tKx K x σ H Q → tKx K x σ H Q' := by
  intro x
  induction x with
  | c kk => exact fun k h => k _ _ h
  | v j => exact fun k ⟨w, e, h⟩ => ⟨w, e, k _ _ h⟩
  | add x y ihx ihy => exact fun k h => ihx (fun _ _ h1 => ihy (fun _ _ ⟨i, j, e1, e2, q⟩ => ⟨i, j, e1, e2, k _ _ q⟩) h1) h
  | sub x y ihx ihy => exact fun k h => ihx (fun _ _ h1 => ihy (fun _ _ ⟨i, j, e1, e2, q⟩ => ⟨i, j, e1, e2, k _ _ q⟩) h1) h
  | it j n => exact fun k ⟨v, e, u, s, q⟩ => ⟨v, e, u, s, k _ _ q⟩
theorem tBx_mono {K : Frag} : ∀ (b : Bx) {σ : L2.St} {H : Hp} {Q Q' : VK}, (∀ v H, Q v H → Q' v H) → tBx K b σ H Q → tBx K b σ H Q' := by
  intro b
  induction b with
  | f b j g ih => exact fun k h => ih (fun v H1 ⟨u, s, q⟩ => ⟨u, s, k _ _ q⟩) h
  | s i => exact fun k ⟨v, e, q⟩ => ⟨v, e, k _ _ q⟩
  | k b x ih =>
    intro σ H Q Q' k h
    exact ih (fun v H1 h1 => tKx_mono x (fun y H2 ⟨u, s, q⟩ => ⟨u, s, k _ _ q⟩) h1) h
theorem snd_bf {X : Cx} {e : Expr} {pos : Pos} {b : Bx} {j : Nat} {g : Str} (h : PE X e (tBx X.K b)) (hb : attributeBase e g X.env (eval e X.env) = eval e X.env) : PE X (.Attribute e g pos) (tBx X.K (.f b j g)) :=
  pe_imp (pe_fld h hb) fun σ H Q q => tBx_mono b (fun v H1 ⟨u, ⟨a, C, dx, fs, e1, e2, e3, e4, e5⟩, q⟩ => ⟨a, C, dx, fs, u, e1, e2, e3, e4, e5, q⟩) q
/-- an object of the class c -/
def obP (c : Str) : D → (List (D × D) → Prop) → Prop
  | .dict ((.none, .str c') :: es), R => c' = c ∧ R es
  | _, _ => False
theorem obP_iff {c : Str} {d : D} {R : List (D × D) → Prop} (h : obP c d R) : ∃ es, d = .dict (oMark c :: es) ∧ R es := by
  unfold obP at h
  split at h
  · obtain ⟨rfl, h⟩ := h
    exact ⟨_, rfl, h⟩
  · exact h.elim
theorem y_obP {c : Str} {es : List (D × D)} {R : List (D × D) → Prop} : obP c (.dict (oMark c :: es)) R = R es := by
  show (c = c ∧ R es) = R es
  simp
theorem y_fch {n : Nat} {c g : Str} {es : List (D × D)} {j : Nat} : fchild (n + 1) (.dict (oMark c :: es)) j g = (es[j]?).bind fun q => if isFk g q.1 = true then some (n, q.2) else none := rfl
theorem RepO.obj {K : Frag} {G H : Hp} {O : Addr → HO → Prop} {n : Nat} {v : V} {c : Str} {es : List (D × D)} {fp : List Addr} (r : RepO K G H O (n + 1) v (.dict (oMark c :: es)) fp) :
    ∃ a C dx fs fp0, v = .ref a ∧ fp = a :: fp0 ∧ H a = some (.ins C dx fs) ∧ ObC K c C (fs.map (·.1)) ∧ es.map (·.1) = fs.map (fun kv => fkD kv.1) ∧ (fs.map (·.1)).Nodup ∧ ROs K G H O n (fs.map (·.2)) (es.map (·.2)) fp0 := by
  generalize hd : PyData.dict (oMark c :: es) = d0 at r
  cases r with
  | leaf l r => subst hd; cases l
  | lst _ _ _ => cases hd
  | dck h1 z e nd r =>
    cases hd
    exact (no_oMark e).elim
  | dct h1 z e nd r => cases hd
  | ins h1 z e nd r =>
    cases hd
    exact ⟨_, _, _, _, _, rfl, rfl, h1, z, e, nd, r⟩
/-! ### fields stored -/
theorem pg_fld {X : Cx} {o : Expr} {g : Str} {pos : Pos} {to : TE} (ho : PE X o to)
    (ha : ∀ v, assign (.Attribute o g pos) X.env v = (do
      let ov ← holding [v] (eval o X.env)
      standAt pos.atName
      holding [v, ov] (setAttr ov g v)
      release [v, ov] []) := by intro _; rfl) :
    PG X (.Attribute o g pos) (fun v σ H Q => to σ H fun x H1 => ∃ a C dx fs, x = .ref a ∧ H1 a = some (.ins C dx fs) ∧ Cls X.K C ∧ NoAttr X.K C g ∧ fs.length < 1000 ∧ Q σ (upd H1 a (.ins C dx (putF g v fs)))) := by
  refine ⟨fun pins s σ H v u Q I r h => ?_⟩
  rw [ha]
  refine wpAny_bind (wpAny_holding (thn (ho.run pins s σ H _ I h) fun ov s1 ⟨x, H1, I1, r1, a, C, dx, fs, e1, e2, e3, e4, e5, q⟩ => ?_))
  subst e1
  obtain rfl : ov = Value.ref a := r1
  refine wpAny_bind (wpAny_standAt (wpAny_bind (wpAny_holding (setattr_ok I1 e2 e3 e4 e5 r fun s3 I3 => ?_))))
  exact wpAny_release ⟨σ, _, I3, q⟩
theorem putF_new : ∀ {fs : List (Str × V)} {g : Str} {v : V}, g ∉ fs.map (·.1) → putF g v fs = fs ++ [(g, v)]
  | [], _, _, _ => rfl
  | (a, x) :: fs, g, v, h => by
    simp only [List.map_cons, List.mem_cons, not_or] at h
    show (if a = g then _ else _) = _
    rw [if_neg (fun e => h.1 e.symm), putF_new h.2]
    rfl
theorem putF_at : ∀ {fs : List (Str × V)} {g : Str} {v u : V} {j : Nat}, (fs.map (·.1)).Nodup → fs[j]? = some (g, u) → putF g v fs = fs.set j (g, v)
  | [], _, _, _, j, _, h => by simp at h
  | (a, x) :: fs, g, v, u, 0, nd, h => by
    simp at h
    obtain ⟨rfl, rfl⟩ := h
    show (if a = a then _ else _) = _
    rw [if_pos rfl]
    rfl
  | (a, x) :: fs, g, v, u, j + 1, nd, h => by
    simp only [List.map_cons, List.nodup_cons] at nd
    have hm : g ∈ fs.map (·.1) := List.mem_map.mpr ⟨(g, u), List.mem_of_getElem? (by simpa using h), rfl⟩
    show (if a = g then _ else _) = _
    rw [if_neg (fun e : a = g => nd.1 (by rw [e]; exact hm)), putF_at nd.2 (by simpa using h)]
    rfl
/-- the class c has no attribute g -/
def FldC (K : Frag) (c g : Str) : Prop := ∀ C, PySem.W.nsIn K mainGlobals c = some (some (.ref C)) → NoAttr K C g
/-- place.g = .., where the object has g as its j-th field -/
def wPutF (b : Bx) (c : Str) (j : Nat) (g : Str) : WG := fun k z env Q => ∃ n d ks m d1, env[b.slot]? = some (some (.own n, d)) ∧ b.keys env = some ks ∧ dpath n d ks = some (m + 1, d1) ∧ fit k m z ∧
  obP c d1 fun es => (es[j]?).map (·.1) = some (fkD g) ∧ es.length < 1000 ∧ Q (env.set b.slot (some (.own n, dset d ks (.dict (oMark c :: es.set j (fkD g, z))))))
/-- place.g = .., where the object has the fields gs -/
def wAddF (b : Bx) (c : Str) (gs : List Str) (g : Str) : WG := fun k z env Q => ∃ n d ks m d1, env[b.slot]? = some (some (.own n, d)) ∧ b.keys env = some ks ∧ dpath n d ks = some (m + 1, d1) ∧ fit k m z ∧
  obP c d1 fun es => es.map (·.1) = gs.map fkD ∧ Q (env.set b.slot (some (.own n, dset d ks (.dict (oMark c :: (es ++ [(fkD g, z)]))))))
section
variable {K : Frag} {G H : Hp} {m : Nat} {u v : V} {z : D} {fc fz : List Addr}
/-- an object with one field put -/
theorem obj_putF {c g : Str} {es es' : List (D × D)} (r : RepO K G H (At H) (m + 1) u (.dict (oMark c :: es)) fc) (rz : RepO K G H (At H) m v z fz) (nd : (fc ++ fz).Nodup) (hn : FldC K c g)
    (h : (∃ j, (es[j]?).map (·.1) = some (fkD g) ∧ es.length < 1000 ∧ es' = es.set j (fkD g, z)) ∨ ∃ gs : List Str, es.map (·.1) = gs.map fkD ∧ g ∉ gs ∧ gs.length < 1000 ∧ es' = es ++ [(fkD g, z)]) :
    ∃ p C dx fs fc', u = .ref p ∧ H p = some (.ins C dx fs) ∧ p ∈ fc ∧ Cls K C ∧ NoAttr K C g ∧ fs.length < 1000 ∧
      RepO K G (upd H p (.ins C dx (putF g v fs))) (At (upd H p (.ins C dx (putF g v fs)))) (m + 1) u (.dict (oMark c :: es')) fc' ∧ fc'.Nodup ∧ ∀ q ∈ fc', q ∈ fc ∨ q ∈ fz := by
  obtain ⟨nd1, nd2, nd3⟩ := List.nodup_append.mp nd
  obtain ⟨p, C, dx, fs, fp, rfl, rfl, h1, oc, e, ndk, rs⟩ := r.obj
  rw [List.nodup_cons] at nd1
  have npz : p ∉ fz := fun hz => nd3 p List.mem_cons_self p hz rfl
  have mo : Mutb (.ins C dx fs) := .inr (.inr (.inr ⟨⟨C, dx, fs⟩, rfl⟩))
  have tp : Tups H (upd H p (.ins C dx (putF g v fs))) := tups_upd h1 mo
  have nfq : ∀ q ∈ fp, q ≠ p := fun q hq e => by subst e; exact nd1.1 hq
  have nzq : ∀ q ∈ fz, q ≠ p := fun q hq e => by subst e; exact npz hq
  have rz' := rz.mono tp (Le.refl G) (fun q hq o e => upd_kp (o' := .ins C dx (putF g v fs)) e (nzq q hq)) fun q hq o e => upd_kp (o' := .ins C dx (putF g v fs)) e (nzq q hq)
  have na : NoAttr K C g := hn C oc.ns
  have el : es.length = fs.length := by simpa using congrArg List.length e
  rcases h with ⟨j, hj, hl, rfl⟩ | ⟨gs, hg, hng, hl, rfl⟩
  · obtain ⟨q, hq, hq2⟩ := Option.map_eq_some_iff.mp hj
    obtain ⟨u0, l1, l0, l2, l3⟩ := flds_at e ndk hq hq2
    have l4 : fs[j]? = some (g, u0) := by
      rw [List.getElem?_map] at l2
      obtain ⟨x, x1, x2⟩ := Option.map_eq_some_iff.mp l2
      have h3 : (es.map (·.1))[j]? = some q.1 := by rw [List.getElem?_map, hq]; rfl
      rw [e, List.getElem?_map, x1] at h3
      have : x.1 = g := fk_inj ((Option.some.inj h3).trans hq2)
      rw [x1, ← this, ← x2]
    have pf := putF_at (v := v) ndk l4
    obtain ⟨_, fj, e1, _, sub, ndj, back⟩ := ROs.focus rs nd1.2 l3
    obtain ⟨fp', w1, w2, w3⟩ := back (fun q hq _ o e => upd_kp (o' := .ins C dx (putF g v fs)) e (nfq q hq)) tp (Le.refl G) rz' nd2 fun q hq hm => (nd3 q (List.mem_cons_of_mem _ hm) q hq rfl).elim
    have k1 : (putF g v fs).map (·.1) = fs.map (·.1) := by
      rw [pf, List.map_set]
      exact set_same (by rw [List.getElem?_map, l4]; rfl)
    have k2 : (putF g v fs).map (·.2) = (fs.map (·.2)).set j v := by rw [pf, List.map_set]
    refine ⟨p, C, dx, fs, p :: fp', rfl, h1, List.mem_cons_self, oc.cl, na, by omega, ?_, ?_, fun q hq => ?_⟩
    · refine .ins upd_same ⟨oc.ns, oc.cl, by rw [k1]; exact oc.na⟩ ?_ (by rw [k1]; exact ndk) ?_
      · rw [List.map_set, set_same (by rw [List.getElem?_map, hq, ← hq2]; rfl), e]
        have := congrArg (List.map fkD) k1
        rw [List.map_map, List.map_map] at this
        exact this.symm
      · rw [k2, List.map_set]
        exact w1
    · rw [List.nodup_cons]
      refine ⟨fun hm => ?_, w2⟩
      rcases w3 p hm with z | z
      · exact npz z
      · exact nd1.1 z.1
    · rcases List.mem_cons.mp hq with e | hq
      · subst e; exact .inl List.mem_cons_self
      · rcases w3 q hq with z | z
        · exact .inr z
        · exact .inl (List.mem_cons_of_mem _ z.1)
  · have kg : fs.map (·.1) = gs := by
      have h2 : fs.map (fun kv => fkD kv.1) = gs.map fkD := e.symm.trans hg
      have inj : ∀ {xs ys : List Str}, xs.map fkD = ys.map fkD → xs = ys := by
        intro xs
        induction xs with
        | nil => intro ys h; cases ys with
          | nil => rfl
          | cons => cases h
        | cons x xs ih => intro ys h; cases ys with
          | nil => cases h
          | cons y ys =>
            have := List.cons.inj h
            rw [fk_inj this.1, ih this.2]
      refine inj ?_
      rw [← h2, List.map_map]
      rfl
    have ng : g ∉ fs.map (·.1) := by rw [kg]; exact hng
    have hl2 : fs.length = gs.length := by rw [← kg, List.length_map]
    have pf := putF_new (v := v) ng
    refine ⟨p, C, dx, fs, p :: (fp ++ fz), rfl, h1, List.mem_cons_self, oc.cl, na, by omega, ?_, ?_, fun q hq => ?_⟩
    · refine .ins upd_same ⟨oc.ns, oc.cl, fun y hy => ?_⟩ ?_ ?_ ?_
      · rw [pf, List.map_append] at hy
        rcases List.mem_append.mp hy with hy | hy
        · exact oc.na y hy
        · simp at hy; subst hy; exact na
      · rw [pf, List.map_append, List.map_append, e]; rfl
      · rw [pf, List.map_append, List.nodup_append]
        exact ⟨ndk, by simp, fun x hx y hy hxy => by simp at hy; subst hy; subst hxy; exact ng hx⟩
      · rw [pf, List.map_append, List.map_append]
        exact ROs.snoc (ROs.mono (by rw [← pf]; exact tp) (Le.refl _) rs (fun q hq o e => upd_kp e (nfq q hq)) fun q hq o e => upd_kp e (nfq q hq)) (by rw [← pf]; exact rz')
    · rw [← List.cons_append]; exact nd
    · rw [← List.cons_append] at hq; exact List.mem_append.mp hq
end
section
variable {X : Cx} {o : Expr} {pos : Pos} {b : Bx} {A : Nat → Prop} {c g : Str}
theorem putF_rd {G H : Hp} {L : Addr → Prop} {σ : L2.St} {env : En} {f : Fps} {k : Nat} {v : V} {z : D} {fv : List Addr} {Q : L2.St → Hp → Prop} {n : Nat} {d : D} {ks : List Pk} {m : Nat} {es es' : List (D × D)} (hf : FldC X.K c g)
    (p : Post X.K G H L σ (OwnsW f fv) G H env f fv) (r : RepO X.K G H (At H) k v z fv) (e0 : env[b.slot]? = some (some (.own n, d))) (e1 : b.keys env = some ks) (e3 : dpath n d ks = some (m + 1, .dict (oMark c :: es))) (hfit : fit k m z)
    (h : (∃ j, (es[j]?).map (·.1) = some (fkD g) ∧ es.length < 1000 ∧ es' = es.set j (fkD g, z)) ∨ ∃ gs : List Str, es.map (·.1) = gs.map fkD ∧ g ∉ gs ∧ gs.length < 1000 ∧ es' = es ++ [(fkD g, z)])
    (q : ∀ H' f', Post X.K G H L σ (OwnsW f fv) G H' (env.set b.slot (some (.own n, dset d ks (.dict (oMark c :: es'))))) f' [] → Q σ H') :
    tBx X.K b σ H fun x H1 => ∃ a C dx fs, x = .ref a ∧ H1 a = some (.ins C dx fs) ∧ Cls X.K C ∧ NoAttr X.K C g ∧ fs.length < 1000 ∧ Q σ (upd H1 a (.ins C dx (putF g v fs))) := by
  have s := p.sr
  obtain ⟨v0, ev, r0⟩ := s.slot b.slot _ _ e0
  obtain ⟨u, fc, pv, r1, ndc, sub, back⟩ := path_own r0 (s.nd _) e3
  refine place_val s e1 ev pv ?_
  have p0 := p.out e0
  obtain ⟨n1, n2, n3⟩ := List.nodup_append.mp p0.nd
  obtain ⟨a, C, dx, fs, fc', ea, h1, hm, hc, hna, hl, r2, ndc', sub'⟩ := obj_putF r1 (toK r hfit) (List.nodup_append.mpr ⟨ndc, n2, fun x hx y hy => n3 x (sub x hx) y hy⟩) hf h
  refine ⟨a, C, dx, fs, ea, h1, hc, hna, hl, ?_⟩
  have mu : ∀ q ∈ f b.slot ++ fv, ∃ o, H q = some o ∧ Mutb o := fun q hq => by
    rcases List.mem_append.mp hq with hq | hq
    · exact RepO.mutb r0 q hq
    · exact RepO.mutb r q hq
  have hmb : Mutb (.ins C dx fs) := .inr (.inr (.inr ⟨⟨C, dx, fs⟩, rfl⟩))
  obtain ⟨fp', b1, b2, b3⟩ := back (fun q hq hn o e => upd_kp (o' := .ins C dx (putF g v fs)) e fun e => hn (by rw [e]; exact hm)) (tups_upd h1 hmb) (Le.refl G) r2 ndc' fun q hq hm' => by
    rcases sub' q hq with z | z
    · exact z
    · exact (n3 q hm' q z rfl).elim
  have wb := Post.wb (fv2 := []) (i := b.slot) p0 (fun q o e hn => upd_kp (o' := .ins C dx (putF g v fs)) e fun e => hn (by rw [e]; exact List.mem_append_left _ (sub a hm))) (fun q => upd_dm h1) mu (by rw [List.append_nil]; exact b2) (fun q hq => by
    rw [List.append_nil] at hq
    rcases b3 q hq with z | z
    · rcases sub' q z with z | z
      · exact List.mem_append_left _ (sub q z)
      · exact List.mem_append_right _ z
    · exact List.mem_append_left _ z.1) (by rw [List.length_set]; exact lt_of_get e0) b1 ev
  rw [set_twice] at wb
  exact q _ _ wb
theorem snd_putF {j : Nat} (hf : FldC X.K c g) (ho : PE X o (tBx X.K b))
    (ha : ∀ v, assign (.Attribute o g pos) X.env v = (do
      let ov ← holding [v] (eval o X.env)
      standAt pos.atName
      holding [v, ov] (setAttr ov g v)
      release [v, ov] [])) : PG X (.Attribute o g pos) (rdG X.K A (wPutF b c j g)) :=
  pg_imp (pg_fld ho ha) fun v σ H Q ⟨G, L, env, f, k, z, fv, P, p, r, ⟨n, d, ks, m, d1, e0, e1, e3, hfit, hob⟩, q⟩ => by
    obtain ⟨es, rfl, hj, hl, hP⟩ := obP_iff hob
    exact putF_rd hf p r e0 e1 e3 hfit (.inl ⟨j, hj, hl, rfl⟩) fun H' f' w => q _ hP σ G H' f' w (.refl σ)
theorem snd_addF {gs : List Str} (hf : FldC X.K c g) (hn : g ∉ gs) (hl : gs.length < 1000) (ho : PE X o (tBx X.K b))
    (ha : ∀ v, assign (.Attribute o g pos) X.env v = (do
      let ov ← holding [v] (eval o X.env)
      standAt pos.atName
      holding [v, ov] (setAttr ov g v)
      release [v, ov] [])) : PG X (.Attribute o g pos) (rdG X.K A (wAddF b c gs g)) :=
  pg_imp (pg_fld ho ha) fun v σ H Q ⟨G, L, env, f, k, z, fv, P, p, r, ⟨n, d, ks, m, d1, e0, e1, e3, hfit, hob⟩, q⟩ => by
    obtain ⟨es, rfl, hj, hP⟩ := obP_iff hob
    exact putF_rd hf p r e0 e1 e3 hfit (.inr ⟨gs, hj, hn, hl, rfl⟩) fun H' f' w => q _ hP σ G H' f' w (.refl σ)
end
/-! ### methods -/
/-- a method m of the class c that may be called -/
structure CalM (P : Program) (w : World) (K : Frag) (mg : Str → Option Value) (base : Heap) (k : Nat) (c m : Str) (F : FS) : Prop where
  ex : ∃ (C f : Addr) (fd : FuncData) (ps : List Str), PySem.W.nsIn K mainGlobals c = some (some (.ref C)) ∧ Meth K C m f ∧ FnG P w K mg base k f fd ps (spV K F) ∧ Binds K fd ps []
theorem CalM.mono {P : Program} {w : World} {K : Frag} {mg : Str → Option Value} {base : Heap} {j k : Nat} {c m : Str} {F : FS} (h : CalM P w K mg base j c m F) (hk : j ≤ k) : CalM P w K mg base k c m F := by
  obtain ⟨C, f, fd, ps, a, b, q, r⟩ := h.ex
  exact ⟨C, f, fd, ps, a, b, q.mono hk, r⟩
/-- o.m(..), o of one of the classes -/
def wMeth (Fs : List (Str × FS)) (wo : WO) (wa : WA) : WE := fun env Q => wo env fun o e1 => fetch e1 o fun n d => 0 < n ∧ ∃ q, q ∈ Fs ∧ obP q.1 d fun _ => wa e1 fun os e2 => ∃ xs, argsAt e2 q.2.ms (o :: os) = some xs ∧ okAX xs = true ∧
  q.2.sp (xs.map (·.1)) fun k z outs => Q k z (putO e2 (xs.map (·.2.1)) (outE q.2.ms outs))
theorem RepX.obj {K : Frag} {G H : Hp} {n : Nat} {v : V} {d : D} {c : Str} {R : List (D × D) → Prop} (r : RepX K G H n v d) (h0 : 0 < n) (h : obP c d R) : ∃ a C dx fs es, v = .ref a ∧ H a = some (.ins C dx fs) ∧ ObC K c C (fs.map (·.1)) ∧ R es := by
  obtain ⟨es, rfl, hR⟩ := obP_iff h
  obtain ⟨n, rfl⟩ : ∃ m, n = m + 1 := ⟨n - 1, by omega⟩
  obtain ⟨fp, r⟩ := r
  obtain ⟨a, C, dx, fs, _, e1, _, e2, e3, _⟩ := r.obj
  exact ⟨a, C, dx, fs, es, e1, e2, e3, hR⟩
theorem look_no {fs : List (Str × V)} {m : Str} (h : m ∉ fs.map (·.1)) : fs.lookup m = none := by
  rw [List.lookup_eq_none_iff]
  intro p hp
  rw [bne_iff_ne]
  intro e
  exact h (List.mem_map.mpr ⟨p, hp, e.symm⟩)
theorem ObC.no {K : Frag} {c : Str} {C : Addr} {gs : List Str} {m : Str} {f : Addr} (o : ObC K c C gs) (h : Meth K C m f) : m ∉ gs := fun hm => by
  have h1 := o.na m hm
  have h2 := h.at_
  unfold NoAttr at h1
  rw [h1] at h2
  cases h2
section
variable {X : Cx} {k : Nat} {o e : Expr} {es : List Expr} {m : Str} {apos pos : Pos} {Fs : List (Str × FS)} {wo : WO} {wa : WA}
theorem meth_rd {σ : L2.St} {H : Hp} {Q : VK} (hF : ∀ q ∈ Fs, CalM X.prog X.w X.K X.mg X.base k q.1 m q.2)
    (h : rdE X.K (wMeth Fs wo wa) σ H Q) :
    rdO X.K wo σ H fun x H1 => ∃ a C dx fs g, x = .ref a ∧ H1 a = some (.ins C dx fs) ∧ Cls X.K C ∧ Meth X.K C m g ∧ fs.lookup m = none ∧
      ∃ (fd : FuncData) (ps : List Str) (F : FS), FnG X.prog X.w X.K X.mg X.base k g fd ps (spV X.K F) ∧ Binds X.K fd ps [] ∧ rdA X.K wa σ H1 fun vs H2 => spV X.K F (.ref a :: vs) H2 Q fun _ _ _ => False := by
  obtain ⟨G, L, env, f, P, s, h, q⟩ := h
  refine ⟨G, L, env, f, _, s, h, ?_⟩
  intro o e1 h1 v1 G1 H1 f1 fv1 p1 r1
  obtain ⟨n, d, x, h0, qc, hq, hob⟩ := fetch_x p1.sr r1 h1
  obtain ⟨a, C, dx, fs, _, rfl, ea, oc, hw⟩ := x.obj h0 hob
  obtain ⟨C', g, fd, ps, hC, hm, fn, bd⟩ := (hF qc hq).ex
  have : C' = C := by
    have := hC.symm.trans oc.ns
    simpa using this
  subst this
  refine ⟨a, C', dx, fs, g, rfl, ea, oc.cl, hm, look_no (oc.no hm), fd, ps, qc.2, fn, bd, G1, L, e1, f1, _, p1.sr, hw, ?_⟩
  rintro os e2 ⟨xs, h1, ok, h2⟩ vs G2 H2 f2 fv2 p2 r2
  have p12 := p1.seq p2
  obtain ⟨lv, lx, ar⟩ := argsAt_r p12.sr (.cons (OpdR.step p1 p2 r1) r2) (fun p hp => hp) h1
  refine ⟨G2, _, xs.map (·.1), _, _, lv, call_in p12 lv lx ok ar, h2, ?_⟩
  rintro k z outs hR v G3 H3 f3 fv3 b ro
  obtain ⟨f4, c⟩ := call_out p12 lv lx ok ar b
  have t := p12.seq c
  have t' : Post X.K G H L σ (Owns f) G3 H3 (putO e2 (xs.map (·.2.1)) (outE qc.2.ms outs)) f4 fv3 := t.drop (fun p hp => List.mem_append_right _ hp) (List.nodup_append.mp t.nd).2.1
  exact q k z _ hR v G3 H3 f4 fv3 t' ro
theorem snd_meth {pl : Sem Bool} (hF : ∀ q ∈ Fs, CalM X.prog X.w X.K X.mg X.base k q.1 m q.2) (room : Room k X.A) (gu : X.A.guards = some []) (ho : PE X o (rdO X.K wo)) (ha : PA X (e :: es) (rdA X.K wa))
    (hst : starEach (e :: es) X.env = (false, eval e X.env) :: starEach es X.env) (hpl : (backTo pos (starEach es X.env)).any (·.1) = false)
    (ht : eval (.Call (.Attribute o m apos) (e :: es) [] pos) X.env = (do
      let ov ← eval o X.env
      standAt apos.atName
      let (f, first) ← holding [ov] (getMethod ov m pl)
      callWith pos f first (backTo pos (starEach (e :: es) X.env)) (backToKw pos (keywordEach [] X.env)))) : PE X (.Call (.Attribute o m apos) (e :: es) [] pos) (rdE X.K (wMeth Fs wo wa)) := by
  refine ⟨fun pins s σ H Q I h => ?_⟩
  have h' := meth_rd hF h
  obtain ⟨G, L, env, f, P, s0, h0, q0⟩ := h'
  refine methcall_of (te := rdO X.K wo) ho I ⟨G, L, env, f, P, s0, h0, fun o' e1 h1 v1 G1 H1 f1 fv1 p1 r1 => ?_⟩ ht
  obtain ⟨a, C, dx, fs, g, e1, e2, e3, e4, e5, fd, ps, F, fn, bd, hA⟩ := q0 o' e1 h1 v1 G1 H1 f1 fv1 p1 r1
  refine ⟨a, C, dx, fs, g, e1, e2, e3, e4, e5, fun s1 I1 => ?_⟩
  refine PySem.W.callWith_K (first := [.ref a]) (h₀ := X.base) I1.ok.mod.kin e4.kp (thn (ha.run pos pins s1 σ H1 _ I1 hA) fun us s2 ⟨vs, H2, I2, r, q2⟩ => ⟨I2.kIn, ?_⟩) hst hpl
  exact run_fnG (us := .ref a :: us) (vs := .ref a :: vs) fn room gu bd I2 (.cons rfl r) q2
end
end Sq
/-! Sq89: objects made -/
namespace Sq
open PySem PySem.Spec PyProof.Rows L2
section
variable {X : Cx} {k : Nat} {f : Addr} {fd : FuncData} {ps : List Str} {sp : Sp} {C : Addr} {x : Str} {p pos : Pos} {e : Expr} {es : List Expr} {t : TA}
theorem run_makeG {pins : List (Addr × Obj)} {σ : L2.St} {H : Hp} {s : Shared} {Q : VK} {us : List Value} {vs : List V} (M : Mk X.K C f) (F : FnG X.prog X.w X.K X.mg X.base k f fd ps sp) (hr : Room (k + 1) X.A) (gu : X.A.guards = some []) (hb : Binds X.K fd ps [])
    (I : Inv X pins σ H s) (r : Vals vs us)
    (h : ∀ x dx, H x = none → H dx = none → dx ≠ x → sp (.ref x :: vs) (upd (upd H dx (.own x)) x (.ins C dx [])) (fun v H2 => v = .non ∧ Q (.ref x) H2) fun _ _ _ => False) :
    wpAny (model X.prog X.w) X.A (call (.ref C) us) (EP X pins σ Q) X.xe s := by
  have hq := h (s.heap.objs.size + 1) s.heap.objs.size (I.hok.fresh (Nat.le_succ _)) (I.hok.fresh (Nat.le_refl _)) (Nat.ne_of_lt (Nat.lt_succ_self _))
  have I2 := Inv.made (C := C) I
  have r2 : Vals (V.ref (s.heap.objs.size + 1) :: vs) (Value.ref (s.heap.objs.size + 1) :: us) := .cons rfl r
  have hl : (Value.ref (s.heap.objs.size + 1) :: us).length = ps.length := by
    have e := r2.length
    rw [F.len _ _ _ _ hq] at e
    exact e.symm
  have gu2 : (X.A.under (.builtin "type.__call__" ⟨.ref C :: us, []⟩)).guards = some [] := gu
  have b := hb _ (Value.ref (s.heap.objs.size + 1) :: us) I2.kIn (by simpa using hl)
  rw [List.append_nil] at b
  refine wpAny_call (make_map (f := f) I.kIn M.makes M.init (beq_iff_eq.mp M.fn) (codeAny_mono (F.run _ X.stack _ _ ⟨Value.ref (s.heap.objs.size + 1) :: us, []⟩ (Value.ref (s.heap.objs.size + 1) :: us) _ _ (hr.make C us []) gu2
    (I2.env0.make C us []) b r2 hq) fun r s' hq' => ?_))
  match r, hq' with
  | .ok (.ret u), hq' =>
    obtain ⟨v, H', I3, rv, ev, q3⟩ := I2.after hq'
    subst ev
    exact ⟨rv, ⟨V.ref (s.heap.objs.size + 1), H', I3, rfl, q3⟩⟩
theorem pe_makeG (M : Mk X.K C f) (F : FnG X.prog X.w X.K X.mg X.base k f fd ps sp) (hr : Room (k + 1) X.A) (gu : X.A.guards = some []) (hg : Gl X x) (hm : X.mg x = some (.ref C)) (hb : Binds X.K fd ps [])
    (ha : PA X (e :: es) t) (hdb : (x == ("__debug__" : Str)) = false) (he : starEach (e :: es) X.env = (false, eval e X.env) :: starEach es X.env) (hpl : (backTo pos (starEach es X.env)).any (·.1) = false) :
    PE X (.Call (.Name x p) (e :: es) [] pos) (fun σ H Q => t σ H fun vs H1 => ∀ x dx, H1 x = none → H1 dx = none → dx ≠ x → sp (.ref x :: vs) (upd (upd H1 dx (.own x)) x (.ins C dx [])) (fun v H2 => v = .non ∧ Q (.ref x) H2) fun _ _ _ => False) := by
  refine ⟨fun pins s σ H Q I h => ?_⟩
  refine wpAny_Call_Name_kw (ld_glob I hg hm ?_ hdb)
  refine PySem.W.callWith_K (h₀ := X.base) I.ok.mod.kin M.kp (thn (ha.run pos pins s σ H _ I h) fun us s1 ⟨vs, H1, I1, r, q⟩ => ⟨I1.kIn, ?_⟩) he hpl
  exact run_makeG M F hr gu hb I1 r q
end
/-- a class whose objects may be made by its name -/
structure CalC (P : Program) (w : World) (K : Frag) (mg : Str → Option Value) (base : Heap) (k : Nat) (c : Str) (F : FS) : Prop where
  ex : ∃ (C f : Addr) (fd : FuncData) (ps : List Str), PySem.W.nsIn K mainGlobals c = some (some (.ref C)) ∧ mg c = some (.ref C) ∧ Cls K C ∧ Mk K C f ∧ FnG P w K mg base k f fd ps (spV K F) ∧ Binds K fd ps []
theorem CalC.mono {P : Program} {w : World} {K : Frag} {mg : Str → Option Value} {base : Heap} {j k : Nat} {c : Str} {F : FS} (h : CalC P w K mg base j c F) (hk : j ≤ k) : CalC P w K mg base k c F := by
  obtain ⟨C, f, fd, ps, a, b, b2, b3, q, r⟩ := h.ex
  exact ⟨C, f, fd, ps, a, b, b2, b3, q.mono hk, r⟩
/-- c(..): its __init__ takes the bare object, n levels of it -/
def wMake (c : Str) (n : Nat) (ms : List PM) (F : FS) (wa : WA) : WE := fun env Q => wa env fun os e1 => F.ms = .io (n + 1) :: ms ∧ ∃ xs, argsAt e1 ms os = some xs ∧ okAX xs = true ∧
  F.sp (.dict [oMark c] :: xs.map (·.1)) fun k z outs => z = .none ∧ ∃ o outs', outs = o :: outs' ∧ Q (n + 1) o (putO e1 (xs.map (·.2.1)) (outE ms outs'))
theorem Post.atEnd {K : Frag} {G0 H0 G H H2 : Hp} {L : Addr → Prop} {σ : L2.St} {F : Addr → Prop} {f : Fps} {e : En} {fv : List Addr} {n : Nat} {v : V} {d : D} {a : Addr} (p : Post K G0 H0 L σ F G H e f fv) (le : Le H H2) (r : RepO K G H2 (At H2) n v d [a]) (na : H a = none) :
    ∃ f', Post K G0 H0 L (σ ++ [some v]) F G H2 (e ++ [some (.own n, d)]) f' fv ∧ f' e.length = [a] ∧ ∀ i, i ≠ e.length → f' i = f i := by
  have q : Post K G H L σ (Owns f) G H2 e f [a] := Post.of_le p.sr le (by simp) (fun q hq => by simp at hq; subst hq; exact na) fun q hq => let ⟨o, e, _⟩ := RepO.mutb r q hq; ⟨o, e⟩
  have t := p.seq q
  have t2 : Post K G0 H0 L σ F G H2 e f ([a] ++ fv) := t.drop (fun x hx => by simpa [or_comm] using hx) (by
    have := t.nd
    rw [List.nodup_append] at this ⊢
    exact ⟨this.2.1, this.1, fun x hx y hy e => this.2.2 y hy x hx e.symm⟩)
  have s2 := t2.sr.more 1
  have t3 : Post K G0 H0 L (σ ++ List.replicate 1 none) F G H2 (e ++ List.replicate 1 none) f ([a] ++ fv) := ⟨t2.stp, s2, t2.nd, t2.dj, t2.gf, t2.al, t2.dom, t2.nl⟩
  have hi : e.length < (e ++ List.replicate 1 none).length := by simp
  have t4 := t3.putL (i := e.length) r hi
  have e1 : (e ++ List.replicate 1 none).set e.length (some (.own n, d)) = e ++ [some (.own n, d)] := by
    simp [List.set_append]
  have e2 : (σ ++ List.replicate 1 none).set e.length (some v) = σ ++ [some v] := by
    rw [p.sr.len]
    simp [List.set_append]
  rw [e1, e2] at t4
  exact ⟨_, t4, by simp, fun i hi => by simp [hi]⟩
theorem argAt_lt {e : En} {m : PM} {o : Opd} {x : AX} (h : argAt e m o = some x) : ∀ j, x.2.1 = some j ∨ x.2.2 = some j → j < e.length := by
  intro j hj
  have fin : ∀ {i : Nat} {s : Slot}, e[i]? = some s → i < e.length := fun h => lt_of_get h
  cases m with
  | val =>
    cases o with
    | tmp n d =>
      simp only [argAt] at h
      split at h
      · cases h; rcases hj with hj | hj <;> cases hj
      · cases h
    | sl i =>
      simp only [argAt] at h
      split at h
      · split at h
        · cases h; rcases hj with hj | hj <;> cases hj
        · cases h
      · split at h
        · cases h; rcases hj with hj | hj <;> cases hj
        · cases h
      · cases h
  | io n =>
    cases o with
    | tmp n d => cases h
    | sl i =>
      simp only [argAt] at h
      split at h
      · rename_i q
        split at h
        · cases h
          rcases hj with hj | hj
          · cases hj; exact fin q
          · cases hj
        · cases h
      · cases h
  | br n =>
    cases o with
    | tmp n d =>
      simp only [argAt] at h
      split at h
      · cases h; rcases hj with hj | hj <;> cases hj
      · cases h
    | sl i =>
      simp only [argAt] at h
      split at h
      · rename_i q
        split at h
        · cases h
          rcases hj with hj | hj
          · cases hj
          · cases hj; exact fin q
        · cases h
      · split at h
        · cases h; rcases hj with hj | hj <;> cases hj
        · cases h
      · cases h
theorem argsAt_lt {e : En} : ∀ {ms : List PM} {os : List Opd} {xs : List AX}, argsAt e ms os = some xs → ∀ x ∈ xs, ∀ j, x.2.1 = some j ∨ x.2.2 = some j → j < e.length
  | [], [], xs, h, x, hx, j, hj => by cases h; simp at hx
  | [], _ :: _, xs, h, x, hx, j, hj => by cases h
  | _ :: _, [], xs, h, x, hx, j, hj => by cases h
  | m :: ms, o :: os, xs, h, x, hx, j, hj => by
    obtain ⟨y, h1, h2⟩ := Option.bind_eq_some_iff.mp h
    obtain ⟨ys, h3, rfl⟩ := Option.map_eq_some_iff.mp h2
    rcases List.mem_cons.mp hx with e | hx
    · subst e; exact argAt_lt h1 j hj
    · exact argsAt_lt h3 x hx j hj
theorem putO_app : ∀ {js : List (Option Nat)} {e ss : En} {y : Slot}, (∀ j, some j ∈ js → j < e.length) → putO (e ++ [y]) js ss = putO e js ss ++ [y]
  | [], e, ss, y, _ => by cases ss <;> rfl
  | some i :: js, e, [], y, _ => rfl
  | none :: js, e, [], y, _ => rfl
  | some i :: js, e, s :: ss, y, h => by
    have hi := h i List.mem_cons_self
    rw [putO, putO, List.set_append, if_pos hi]
    exact putO_app fun j hj => by rw [List.length_set]; exact h j (List.mem_cons_of_mem _ hj)
  | none :: js, e, s :: ss, y, h => by
    rw [putO, putO]
    exact putO_app fun j hj => h j (List.mem_cons_of_mem _ hj)
theorem RepO.non_v {K : Frag} {G H : Hp} {O : Addr → HO → Prop} {n : Nat} {v : V} {fp : List Addr} (r : RepO K G H O n v .none fp) : v = .non := by
  cases r with
  | frz r => cases r; rfl
  | leaf _ r => cases r; rfl
theorem Post.cutEnd {K : Frag} {G0 H0 G H : Hp} {L : Addr → Prop} {σ : L2.St} {x : Option V} {F : Addr → Prop} {f : Fps} {e : En} {fv : List Addr} (p : Post K G0 H0 L (σ ++ [x]) F G H (e ++ [none]) f fv) : Post K G0 H0 L σ F G H e f fv := by
  have s := p.sr
  have hl : e.length = σ.length := by simpa using s.len
  refine ⟨p.stp, ⟨hl, fun i m d h => ?_, fun i q hq => ?_, s.nd, s.dj, s.gh, s.gf, s.lk, s.lf⟩, p.nd, p.dj, p.gf, p.al, p.dom, p.nl⟩
  · have hi := lt_of_get h
    obtain ⟨v, ev, r⟩ := s.slot i m d (by rw [List.getElem?_append_left hi]; exact h)
    exact ⟨v, by rw [List.getElem?_append_left (by omega)] at ev; exact ev, r⟩
  · obtain ⟨n, d, h⟩ := s.own i q hq
    by_cases hi : i < e.length
    · rw [List.getElem?_append_left hi] at h
      exact ⟨n, d, h⟩
    · rw [List.getElem?_append_right (by omega)] at h
      cases hk : i - e.length with
      | zero => rw [hk] at h; cases h
      | succ k => rw [hk] at h; cases h
section
variable {X : Cx} {F : FS} {wa : WA} {k : Nat} {c : Str} {p pos : Pos} {e : Expr} {es : List Expr} {n : Nat} {ms : List PM}
theorem make_rd {C : Addr} {σ : L2.St} {H : Hp} {Q : VK} (hns : PySem.W.nsIn X.K mainGlobals c = some (some (.ref C))) (hcl : Cls X.K C) (h : rdE X.K (wMake c n ms F wa) σ H Q) :
    rdA X.K wa σ H fun vs H1 => ∀ x dx, H1 x = none → H1 dx = none → dx ≠ x → spV X.K F (.ref x :: vs) (upd (upd H1 dx (.own x)) x (.ins C dx [])) (fun v H2 => v = .non ∧ Q (.ref x) H2) fun _ _ _ => False := by
  obtain ⟨G, L, env, f, P, s, h, q⟩ := h
  refine ⟨G, L, env, f, _, s, h, ?_⟩
  rintro os e1 ⟨hms, xs, h1, ok, h2⟩ vs G1 H1 f1 fv1 p1 r1 x dx nx ndx hne
  have nx2 : (upd H1 dx (.own x)) x = none := by rw [upd_ne hne.symm]; exact nx
  have le : Le H1 (upd (upd H1 dx (.own x)) x (.ins C dx [])) := (le_upd ndx).trans (le_upd nx2)
  have rx : RepO X.K G1 (upd (upd H1 dx (.own x)) x (.ins C dx [])) (At (upd (upd H1 dx (.own x)) x (.ins C dx []))) (n + 1) (.ref x) (.dict [oMark c]) [x] :=
    .ins (es := []) (fs := []) upd_same ⟨hns, hcl, fun _ h => nomatch h⟩ rfl List.nodup_nil .nil
  obtain ⟨lv, lx, ar⟩ := argsAt_r p1.sr r1 (fun p hp => hp) h1
  obtain ⟨f2, p2, ff, fo⟩ := p1.atEnd le rx nx
  have hlen : e1.length = σ.length := p1.sr.len
  have jlt := argsAt_lt h1
  -- the arguments, behind the new object
  have lv' : (V.ref x :: vs).length = F.ms.length := by rw [hms]; simp [lv]
  have lx' : ((PyData.dict [oMark c], some e1.length, none) :: xs : List AX).length = F.ms.length := by rw [hms]; simp [lx]
  have ok' : okAX ((PyData.dict [oMark c], some e1.length, none) :: xs) = true := by
    unfold okAX at ok ⊢
    rw [Bool.and_eq_true] at ok ⊢
    obtain ⟨oj, ob⟩ := ok
    refine ⟨?_, ?_⟩
    · simp only [List.map_cons, okJ, Bool.and_eq_true, Bool.not_eq_true']
      refine ⟨?_, oj⟩
      cases hc : (xs.map (·.2.1)).contains (some e1.length) with
      | false => rfl
      | true =>
        obtain ⟨y, hy, hy2⟩ := List.mem_map.mp (List.contains_iff_mem.mp hc)
        have := jlt y hy e1.length (.inl hy2)
        omega
    · simp only [List.all_cons, Bool.true_and]
      rw [List.all_eq_true] at ob ⊢
      intro y hy
      have hb := ob y hy
      cases hj : y.2.2 with
      | none => rfl
      | some j =>
        rw [hj] at hb
        simp only [List.map_cons, List.contains_cons, Bool.not_or, Bool.and_eq_true] at hb ⊢
        refine ⟨?_, hb⟩
        have := jlt y hy j (.inr hj)
        rw [Bool.not_eq_true', beq_eq_false_iff_ne]
        intro e
        have := Option.some.inj e
        omega
  have ar' : ∀ (t : Nat) (m : PM) (y : AX), F.ms[t]? = some m → ((PyData.dict [oMark c], some e1.length, none) :: xs : List AX)[t]? = some y →
      ∃ v, (V.ref x :: vs)[t]? = some v ∧ ArgR X.K G1 (upd (upd H1 dx (.own x)) x (.ins C dx [])) L f2 fv1 (σ ++ [some (.ref x)]) (e1 ++ [some (.own (n + 1), .dict [oMark c])]) m v y := by
    intro t m y hm hy
    rw [hms] at hm
    cases t with
    | zero =>
      simp at hm hy
      subst hm; subst hy
      exact ⟨_, rfl, .io (by rw [hlen]; simp) (by simp) (by rw [ff]; exact rx)⟩
    | succ t =>
      rw [List.getElem?_cons_succ] at hm hy
      obtain ⟨v, hv, a⟩ := ar t m y hm hy
      refine ⟨v, by simpa using hv, ?_⟩
      have tp := Tups.of_le le
      have jl := jlt y (List.mem_of_getElem? hy)
      cases a with
      | val r => exact .val (r.mono tp (Le.refl _))
      | @io _ _ n0 j0 a1 a2 r =>
        have hj := jl j0 (.inl rfl)
        refine .io (by rw [List.getElem?_append_left (by omega)]; exact a1) (by rw [List.getElem?_append_left hj]; exact a2) ?_
        rw [fo j0 (by omega)]
        exact r.mono tp (Le.refl _) (fun p _ o h => le p o h) fun p _ o h => le p o h
      | tm r hs => exact .tm (r.mono tp (Le.refl _) (fun p _ o h => le p o h) fun p _ o h => le p o h) hs
      | @bo _ _ n0 j0 r =>
        have hj := jl j0 (.inr rfl)
        refine .bo ?_
        rw [fo j0 (by omega)]
        exact r.mono tp (Le.refl _) (fun p _ o h => le p o h) fun p _ o h => le p o h
      | bl r l => exact .bl (r.mono tp (Le.refl _) (fun p _ o h => Rd.le le h) fun p _ o h => le p o h) l
  refine ⟨G1, _, PyData.dict [oMark c] :: xs.map (·.1), _, _, lv', call_in p2 lv' lx' ok' ar', h2, ?_⟩
  rintro k0 z outs ⟨rfl, o, outs', rfl, hQ⟩ v G3 H3 f3 fv3 b ro
  refine ⟨ro.non_v, ?_⟩
  obtain ⟨f4, pc⟩ := call_out p2 lv' lx' ok' ar' b
  have eo : putO (e1 ++ [some (Md.own (n + 1), PyData.dict [oMark c])]) (((PyData.dict [oMark c], some e1.length, none) :: xs : List AX).map (·.2.1)) (outE F.ms (o :: outs')) = putO e1 (xs.map (·.2.1)) (outE ms outs') ++ [some (.own (n + 1), o)] := by
    rw [hms]
    show putO ((e1 ++ [some (Md.own (n + 1), PyData.dict [oMark c])]).set e1.length (some (.own (n + 1), o))) _ _ = _
    rw [show (e1 ++ [some (Md.own (n + 1), PyData.dict [oMark c])]).set e1.length (some (.own (n + 1), o)) = e1 ++ [some (.own (n + 1), o)] by simp [List.set_append]]
    refine putO_app fun j hj => ?_
    obtain ⟨y, hy, hy2⟩ := List.mem_map.mp hj
    exact jlt y hy j (.inl hy2)
  rw [eo] at pc
  have t := p2.seq pc
  have t0 := t.drop0
  have lE : (putO e1 (xs.map (·.2.1)) (outE ms outs')).length = e1.length := putO_len _ _ _
  have hat : (putO e1 (xs.map (·.2.1)) (outE ms outs') ++ [some (Md.own (n + 1), o)])[e1.length]? = some (some (.own (n + 1), o)) := by
    rw [← lE]; simp
  obtain ⟨v', ev, r'⟩ := t0.sr.slot _ _ _ hat
  have : v' = .ref x := by
    rw [hlen] at ev
    simpa using ev.symm
  subst this
  have t1 := t0.out hat
  rw [List.append_nil] at t1
  have eset : (putO e1 (xs.map (·.2.1)) (outE ms outs') ++ [some (Md.own (n + 1), o)]).set e1.length none = putO e1 (xs.map (·.2.1)) (outE ms outs') ++ [none] := by
    rw [← lE]; simp [List.set_append]
  rw [eset] at t1
  exact q _ _ _ hQ _ _ _ _ _ t1.cutEnd r'
theorem snd_make (h : CalC X.prog X.w X.K X.mg X.base k c F) (room : Room (k + 1) X.A) (gu : X.A.guards = some []) (hg : Gl X c) (ha : PA X (e :: es) (rdA X.K wa)) (hdb : (c == ("__debug__" : Str)) = false)
    (he : starEach (e :: es) X.env = (false, eval e X.env) :: starEach es X.env) (hpl : (backTo pos (starEach es X.env)).any (·.1) = false) : PE X (.Call (.Name c p) (e :: es) [] pos) (rdE X.K (wMake c n ms F wa)) := by
  obtain ⟨C, f, fd, ps, hns, hm, hcl, M, fn, bd⟩ := h.ex
  exact pe_imp (pe_makeG M fn room gu hg hm bd ha hdb he hpl) fun σ H Q q => make_rd hns hcl q
end
end Sq
/-! Sq90: temporaries handed in where they are written; rewritings for objects -/
namespace Sq
open PySem PySem.Spec PyProof.Rows L2
/-- temporaries that are written get slots of their own behind all others -/
def liftA : List PM → List Opd → En → En × List Opd
  | .io _ :: ms, .tmp m d :: os, e => ((liftA ms os (e ++ [some (.own m, d)])).1, .sl e.length :: (liftA ms os (e ++ [some (.own m, d)])).2)
  | _ :: ms, o :: os, e => ((liftA ms os e).1, o :: (liftA ms os e).2)
  | _, os, e => (e, os)
theorem OpdR.ext {K : Frag} {G H : Hp} {σ σx : L2.St} {o : Opd} {v : V} {fv : List Addr} (r : OpdR K G H σ o v fv) : OpdR K G H (σ ++ σx) o v fv := by
  cases o with
  | tmp n d => exact r
  | sl i => exact ⟨r.1, by rw [List.getElem?_append_left (lt_of_get r.2)]; exact r.2⟩
theorem OpdsR.ext {K : Frag} {G H : Hp} {σ σx : L2.St} : ∀ {os : List Opd} {vs : List V} {fv : List Addr}, OpdsR K G H σ os vs fv → OpdsR K G H (σ ++ σx) os vs fv
  | _, _, _, .nil => .nil
  | _, _, _, .cons r rs => .cons r.ext rs.ext
theorem lift_r {K : Frag} {G0 H0 G H : Hp} {L : Addr → Prop} {F : Addr → Prop} : ∀ {ms : List PM} {os : List Opd} {vs : List V} {fq : List Addr} {e : En} {f : Fps} {σ : L2.St} {fv : List Addr}, Post K G0 H0 L σ F G H e f fv → OpdsR K G H σ os vs fq → (∀ p ∈ fq, p ∈ fv) → fq.Nodup →
    ∃ σx f' fv' fq' ex, (liftA ms os e).1 = e ++ ex ∧ Post K G0 H0 L (σ ++ σx) F G H (liftA ms os e).1 f' fv' ∧ OpdsR K G H (σ ++ σx) (liftA ms os e).2 vs fq' ∧ (∀ p ∈ fq', p ∈ fv') ∧ (∀ p ∈ fv', p ∈ fv) ∧ (∀ p ∈ fv, p ∉ fq → p ∈ fv')
  | ms, [], _, _, e, f, σ, fv, p, .nil, hs, _ => by
    have e0 : liftA ms [] e = (e, []) := by cases ms with
      | nil => rfl
      | cons m ms => cases m <;> rfl
    rw [e0]
    exact ⟨[], f, fv, [], [], by simp, by simpa using p, .nil, fun _ h => absurd h (by simp), fun _ h => h, fun _ h _ => h⟩
  | [], o :: os, vs, fq, e, f, σ, fv, p, rs, hs, _ => by
    refine ⟨[], f, fv, fq, [], by simp [liftA], by simpa [liftA] using p, ?_, hs, fun _ h => h, fun _ h _ => h⟩
    simpa [liftA] using rs
  | m :: ms, o :: os, _, _, e, f, σ, fv, p, .cons (v := v) (vs := vs) (f1 := f1) (f2 := f2) r rs, hs, nd => by
    obtain ⟨nd1, nd2, nd3⟩ := List.nodup_append.mp nd
    have plain : (liftA (m :: ms) (o :: os) e = ((liftA ms os e).1, o :: (liftA ms os e).2)) → ∃ σx f' fv' fq' ex, (liftA (m :: ms) (o :: os) e).1 = e ++ ex ∧ Post K G0 H0 L (σ ++ σx) F G H (liftA (m :: ms) (o :: os) e).1 f' fv' ∧ OpdsR K G H (σ ++ σx) (liftA (m :: ms) (o :: os) e).2 (v :: vs) fq' ∧ (∀ p ∈ fq', p ∈ fv') ∧ (∀ p ∈ fv', p ∈ fv) ∧ (∀ p ∈ fv, p ∉ f1 ++ f2 → p ∈ fv') := by
      intro e0
      rw [e0]
      obtain ⟨σx, f', fv', fq', ex, h1, h2, h3, h4, h5, h6⟩ := lift_r (ms := ms) p rs (fun q hq => hs q (List.mem_append_right _ hq)) nd2
      refine ⟨σx, f', fv', f1 ++ fq', ex, h1, h2, .cons r.ext h3, fun q hq => ?_, h5, fun q hq hn => h6 q hq fun z => hn (List.mem_append_right _ z)⟩
      rcases List.mem_append.mp hq with hq | hq
      · exact h6 q (hs q (List.mem_append_left _ hq)) fun z => nd3 q hq q z rfl
      · exact h4 q hq
    cases m with
    | val => exact plain rfl
    | br n => exact plain rfl
    | io n =>
      cases o with
      | sl i => exact plain rfl
      | tmp k d =>
        have r : RepO K G H (At H) k v d f1 := r
        let fv2 := fv.filter fun q => decide (q ∉ f1)
        have sub : ∀ q ∈ f1 ++ fv2, q ∈ fv := fun q hq => by
          rcases List.mem_append.mp hq with hq | hq
          · exact hs q (List.mem_append_left _ hq)
          · exact (List.mem_filter.mp hq).1
        have p1 : Post K G0 H0 L σ F G H e f (f1 ++ fv2) := p.drop sub (List.nodup_append.mpr ⟨nd1, p.nd.filter _, fun x hx y hy e => by
          subst e
          have := (List.mem_filter.mp hy).2
          rw [decide_eq_true_eq] at this
          exact this hx⟩)
        have s2 := p1.sr.more 1
        have p2 : Post K G0 H0 L (σ ++ List.replicate 1 none) F G H (e ++ List.replicate 1 none) f (f1 ++ fv2) := ⟨p1.stp, s2, p1.nd, p1.dj, p1.gf, p1.al, p1.dom, p1.nl⟩
        have p3 := p2.putL (i := e.length) r (by simp)
        have e1 : (e ++ List.replicate 1 none).set e.length (some (.own k, d)) = e ++ [some (.own k, d)] := by simp [List.set_append]
        have e2 : (σ ++ List.replicate 1 none).set e.length (some v) = σ ++ [some v] := by
          rw [p.sr.len]
          simp [List.set_append]
        rw [e1, e2] at p3
        obtain ⟨σx, f', fv', fq', ex, h1, h2, h3, h4, h5, h6⟩ := lift_r (ms := ms) p3 rs.ext (fun q hq => List.mem_filter.mpr ⟨hs q (List.mem_append_right _ hq), decide_eq_true fun z => nd3 q z q hq rfl⟩) nd2
        refine ⟨[some v] ++ σx, f', fv', fq', [some (.own k, d)] ++ ex, ?_, ?_, ?_, h4, fun q hq => (List.mem_filter.mp (h5 q hq)).1, fun q hq hn => ?_⟩
        · show (liftA ms os (e ++ [some (.own k, d)])).1 = _
          rw [h1, List.append_assoc]
        · rw [← List.append_assoc]
          exact h2
        · rw [← List.append_assoc]
          refine .cons (f1 := []) (f2 := fq') ⟨rfl, ?_⟩ h3
          rw [p.sr.len]
          simp
        · refine h6 q (List.mem_filter.mpr ⟨hq, decide_eq_true fun z => hn (List.mem_append_left _ z)⟩) fun z => hn (List.mem_append_right _ z)
theorem Post.cutN {K : Frag} {G0 H0 G H : Hp} {L : Addr → Prop} {σ σx : L2.St} {F : Addr → Prop} {f : Fps} {e : En} {n : Nat} {fv : List Addr} (p : Post K G0 H0 L (σ ++ σx) F G H e f fv) (hn : n = σ.length) (hl : n ≤ e.length) :
    ∃ f', Post K G0 H0 L σ F G H (e.take n) f' fv := by
  have s := p.sr
  have mem : ∀ {i q}, q ∈ (if i < n then f i else []) → i < n ∧ q ∈ f i := fun {i q} h => by
    by_cases hi : i < n
    · rw [if_pos hi] at h; exact ⟨hi, h⟩
    · rw [if_neg hi] at h; simp at h
  have get : ∀ {i x}, (e.take n)[i]? = some x → i < n ∧ e[i]? = some x := fun {i x} h => by
    rw [List.getElem?_take] at h
    split at h
    · rename_i hi; exact ⟨hi, h⟩
    · cases h
  refine ⟨fun i => if i < n then f i else [], p.stp, ⟨by rw [List.length_take]; omega, fun i m d h => ?_, fun i q hq => ?_, fun i => ?_, fun i j q hij h1 h2 => s.dj i j q hij (mem h1).2 (mem h2).2, s.gh, fun i q hq => s.gf i q (mem hq).2, s.lk, fun i q hq => s.lf i q (mem hq).2⟩, p.nd, fun q hq z => ?_, p.gf, p.al, fun q hq => ?_, p.nl⟩
  · obtain ⟨hi, h⟩ := get h
    obtain ⟨v, ev, r⟩ := s.slot i m d h
    refine ⟨v, by rw [List.getElem?_append_left (by omega)] at ev; exact ev, ?_⟩
    simp only [if_pos hi]
    exact r
  · obtain ⟨hi, hq⟩ := mem hq
    obtain ⟨k, d, h⟩ := s.own i q hq
    exact ⟨k, d, by rw [List.getElem?_take, if_pos hi]; exact h⟩
  · split
    · exact s.nd i
    · exact List.nodup_nil
  · obtain ⟨i, hi⟩ := z
    exact p.dj q hq ⟨i, (mem hi).2⟩
  · refine p.dom q (hq.imp (fun z => ?_) id)
    obtain ⟨i, hi⟩ := z
    exact ⟨i, (mem hi).2⟩
def wCallT (F : FS) (wa : WA) : WE := fun env Q => wa env fun os e1 => ∃ xs, argsAt (liftA F.ms os e1).1 F.ms (liftA F.ms os e1).2 = some xs ∧ okAX xs = true ∧ F.sp (xs.map (·.1)) fun k z outs => Q k z ((putO (liftA F.ms os e1).1 (xs.map (·.2.1)) (outE F.ms outs)).take e1.length)
section
variable {X : Cx} {F : FS} {wa : WA} {k : Nat} {x : Str} {p pos : Pos} {e : Expr} {es : List Expr}
theorem callT_rd {σ : L2.St} {H : Hp} {Q : VK} (h : rdE X.K (wCallT F wa) σ H Q) : rdA X.K wa σ H fun vs H1 => spV X.K F vs H1 Q fun _ _ _ => False := by
  obtain ⟨G, L, env, f, P, s, h, q⟩ := h
  refine ⟨G, L, env, f, _, s, h, ?_⟩
  rintro os e1 ⟨xs, h1, ok, h2⟩ vs G1 H1 f1 fv1 p1 r1
  obtain ⟨σx, f2, fv2, fq2, ex, l1, l2, l3, l4, l5, l6⟩ := lift_r (ms := F.ms) p1 r1 (fun p hp => hp) p1.nd
  obtain ⟨lv, lx, ar⟩ := argsAt_r l2.sr l3 l4 h1
  refine ⟨G1, _, xs.map (·.1), _, _, lv, call_in l2 lv lx ok ar, h2, ?_⟩
  rintro k z outs hR v G2 H2 f3 fv3 b ro
  obtain ⟨f4, c⟩ := call_out l2 lv lx ok ar b
  have t := l2.seq c
  have t' : Post X.K G H L (σ ++ σx) (Owns f) G2 H2 (putO (liftA F.ms os e1).1 (xs.map (·.2.1)) (outE F.ms outs)) f4 fv3 := t.drop (fun p hp => List.mem_append_right _ hp) (List.nodup_append.mp t.nd).2.1
  obtain ⟨f5, t5⟩ := t'.cutN (n := e1.length) p1.sr.len (by rw [putO_len, l1, List.length_append]; omega)
  exact q k z _ hR v G2 H2 f5 fv3 t5 ro
theorem snd_callIo (c : CalS X.prog X.w X.K X.mg X.base k x F) (room : Room k X.A) (gu : X.A.guards = some []) (hg : Gl X x) (ha : PA X (e :: es) (rdA X.K wa)) (hdb : (x == ("__debug__" : Str)) = false)
    (he : starEach (e :: es) X.env = (false, eval e X.env) :: starEach es X.env) (hpl : (backTo pos (starEach es X.env)).any (·.1) = false) : PE X (.Call (.Name x p) (e :: es) [] pos) (rdE X.K (wCallT F wa)) := by
  obtain ⟨f, fd, ps, fn, hm, kp, bd⟩ := c.ex
  exact pe_imp (pe_callG fn room gu hg hm kp bd ha hdb he hpl) fun σ H Q h => callT_rd h
end
theorem all_nil {α : Type} {p : α → Prop} : ∀ q ∈ ([] : List α), p q := fun _ h => absurd h (by simp)
theorem all_cons {α : Type} {p : α → Prop} {a : α} {l : List α} (h : p a) (t : ∀ q ∈ l, p q) : ∀ q ∈ a :: l, p q := fun q hq => by
  rcases List.mem_cons.mp hq with e | hq
  · subst e; exact h
  · exact t q hq
theorem fldC_mk {K : Frag} {c g : Str} {C : Addr} (h : PySem.W.nsIn K mainGlobals c = some (some (.ref C))) (n : PySem.W.findIn K (.ref C) g = some none) : FldC K c g := fun C' h' => by
  have := h.symm.trans h'
  have : C = C' := by simpa using this
  subst this
  exact n
/-! ### rewritings -/
section
variable {env e : En} {Q : QE}
theorem x_wCallT (F : FS) (wa : WA) : wCallT F wa env Q = (wa env fun os e1 => ∃ xs, argsAt (liftA F.ms os e1).1 F.ms (liftA F.ms os e1).2 = some xs ∧ okAX xs = true ∧ F.sp (xs.map (·.1)) fun k z outs => Q k z ((putO (liftA F.ms os e1).1 (xs.map (·.2.1)) (outE F.ms outs)).take e1.length)) := rfl
theorem y_bs {α β : Type} {a : α} {f : α → Option β} : (some a).bind f = f a := rfl
theorem y_ms {α β : Type} {a : α} {f : α → β} : (some a).map f = some (f a) := rfl
theorem y_tk0 {α : Type} {l : List α} : l.take 0 = [] := rfl
theorem y_tkS {α : Type} {a : α} {l : List α} {n : Nat} : (a :: l).take (n + 1) = a :: l.take n := rfl
theorem y_lifN {ms : List PM} : liftA ms [] e = (e, []) := by cases ms with
  | nil => rfl
  | cons m ms => cases m <;> rfl
theorem y_lifT {n m : Nat} {ms : List PM} {d : D} {os : List Opd} : liftA (.io n :: ms) (.tmp m d :: os) e = ((liftA ms os (e ++ [some (.own m, d)])).1, .sl e.length :: (liftA ms os (e ++ [some (.own m, d)])).2) := rfl
theorem y_lifS {n i : Nat} {ms : List PM} {os : List Opd} : liftA (.io n :: ms) (.sl i :: os) e = ((liftA ms os e).1, .sl i :: (liftA ms os e).2) := rfl
theorem y_lifV {ms : List PM} {o : Opd} {os : List Opd} : liftA (.val :: ms) (o :: os) e = ((liftA ms os e).1, o :: (liftA ms os e).2) := rfl
theorem y_lifB {n : Nat} {ms : List PM} {o : Opd} {os : List Opd} : liftA (.br n :: ms) (o :: os) e = ((liftA ms os e).1, o :: (liftA ms os e).2) := rfl
theorem x_wMeth (Fs : List (Str × FS)) (wo : WO) (wa : WA) : wMeth Fs wo wa env Q = (wo env fun o e1 => fetch e1 o fun n d => 0 < n ∧ ∃ q, q ∈ Fs ∧ obP q.1 d fun _ => wa e1 fun os e2 => ∃ xs, argsAt e2 q.2.ms (o :: os) = some xs ∧ okAX xs = true ∧
  q.2.sp (xs.map (·.1)) fun k z outs => Q k z (putO e2 (xs.map (·.2.1)) (outE q.2.ms outs))) := rfl
theorem y_m1 {q : Str × FS} {R : Str × FS → Prop} : (∃ x, x ∈ [q] ∧ R x) = R q := by simp
theorem x_wMake (c : Str) (n : Nat) (ms : List PM) (F : FS) (wa : WA) : wMake c n ms F wa env Q = (wa env fun os e1 => F.ms = .io (n + 1) :: ms ∧ ∃ xs, argsAt e1 ms os = some xs ∧ okAX xs = true ∧
  F.sp (.dict [oMark c] :: xs.map (·.1)) fun k z outs => z = .none ∧ ∃ o outs', outs = o :: outs' ∧ Q (n + 1) o (putO e1 (xs.map (·.2.1)) (outE ms outs'))) := rfl
theorem y_plF {k j : Nat} {g : Str} {R : QE} : wPl (.f (.s k) j g) env R = seenAt env[k]? fun n d => ∃ c, fchild n d j g = some c ∧ (c.1 = 0 ∨ isLeaf c.2 = true) ∧ R 0 c.2 env := by
  show fetch env (.sl k) _ = _
  rw [y_fetS]
  congr 1
  funext n d
  apply propext
  constructor
  · rintro ⟨ks, m, c, h1, h2, h3⟩
    cases h1
    obtain ⟨x, e1, e2⟩ := Option.bind_eq_some_iff.mp h2
    cases e2
    exact ⟨_, e1, h3⟩
  · rintro ⟨c, e1, h⟩
    exact ⟨[.fld j g], c.1, c.2, rfl, Option.bind_eq_some_iff.mpr ⟨c, e1, rfl⟩, h⟩
theorem y_unF {k j : Nat} {g : Str} {w : OW} {R : QE} : wUn w (.f (.s k) j g) env R = seenAt env[k]? fun n d => ∃ c, fchild n d j g = some c ∧ w [(c.1, c.2)] fun n z => R n z env := by
  show fetch env (.sl k) _ = _
  rw [y_fetS]
  congr 1
  funext n d
  apply propext
  constructor
  · rintro ⟨ks, m, c, h1, h2, h3⟩
    cases h1
    obtain ⟨x, e1, e2⟩ := Option.bind_eq_some_iff.mp h2
    cases e2
    exact ⟨_, e1, h3⟩
  · rintro ⟨c, e1, h⟩
    exact ⟨[.fld j g], c.1, c.2, rfl, Option.bind_eq_some_iff.mpr ⟨c, e1, rfl⟩, h⟩
theorem y_putF {k j : Nat} {c g : Str} {z : D} {a : Nat} {R : En → Prop} : wPutF (.s k) c j g a z env R = ownAt env[k]? fun n d => 0 < n ∧ fit a (n - 1) z ∧ obP c d fun es => (es[j]?).map (·.1) = some (fkD g) ∧ es.length < 1000 ∧ R (env.set k (some (.own n, .dict (oMark c :: es.set j (fkD g, z))))) := by
  rw [← own_iff]
  apply propext
  constructor
  · rintro ⟨n, d, ks, m, d1, h1, h2, h4, h5, h6⟩
    cases h2
    cases h4
    refine ⟨_, _, h1, Nat.succ_pos m, h5, h6⟩
  · rintro ⟨n, d, h1, h0, h5, h6⟩
    obtain ⟨m, rfl⟩ : ∃ m, n = m + 1 := ⟨n - 1, by omega⟩
    exact ⟨m + 1, d, [], m, d, h1, rfl, rfl, h5, h6⟩
theorem y_addF {k : Nat} {c g : Str} {gs : List Str} {z : D} {a : Nat} {R : En → Prop} : wAddF (.s k) c gs g a z env R = ownAt env[k]? fun n d => 0 < n ∧ fit a (n - 1) z ∧ obP c d fun es => es.map (·.1) = gs.map fkD ∧ R (env.set k (some (.own n, .dict (oMark c :: (es ++ [(fkD g, z)]))))) := by
  rw [← own_iff]
  apply propext
  constructor
  · rintro ⟨n, d, ks, m, d1, h1, h2, h4, h5, h6⟩
    cases h2
    cases h4
    refine ⟨_, _, h1, Nat.succ_pos m, h5, h6⟩
  · rintro ⟨n, d, h1, h0, h5, h6⟩
    obtain ⟨m, rfl⟩ : ∃ m, n = m + 1 := ⟨n - 1, by omega⟩
    exact ⟨m + 1, d, [], m, d, h1, rfl, rfl, h5, h6⟩
end
end Sq
/-! Sq91: xs.pop(i), i from 0 on -/
namespace Sq
open PySem PySem.Spec PyProof.Rows L2
/-- slot.pop(w) -/
def wPopI (i : Nat) (w : WE) : WE := fun env Q => (∃ n xs, env[i]? = some (some (.own n, .list xs))) ∧ w env fun _ z e1 => ∃ xs j y, z = .int j ∧ e1[i]? = some (some (.own 1, .list xs)) ∧ 0 ≤ j ∧ j < (xs.length : Nat) ∧ xs[j.toNat]? = some y ∧ Q 0 y (e1.set i (some (.own 1, .list (xs.eraseIdx j.toNat))))
theorem RepFs.eraseIdx {K : Frag} {G H : Hp} : ∀ {vs : List V} {ds : List D}, RepFs K G H vs ds → ∀ k, RepFs K G H (vs.eraseIdx k) (ds.eraseIdx k)
  | _, _, .nil, k => by simp; exact .nil
  | _, _, .cons h r, 0 => r
  | _, _, .cons h r, k + 1 => .cons h (RepFs.eraseIdx r k)
section
variable {X : Cx} {e : Expr} {b : Bx}
theorem x_wPopI (i : Nat) (w : WE) (env : En) (Q : QE) : wPopI i w env Q = ((∃ n xs, env[i]? = some (some (.own n, .list xs))) ∧ w env fun _ z e1 => ∃ xs j y, z = .int j ∧ e1[i]? = some (some (.own 1, .list xs)) ∧ 0 ≤ j ∧ j < (xs.length : Nat) ∧ xs[j.toNat]? = some y ∧ Q 0 y (e1.set i (some (.own 1, .list (xs.eraseIdx j.toNat))))) := rfl
end
end Sq
/-! Sq92: the sight runner, in plain maths -/
namespace Sq
open PySem PySem.Spec PyProof.Rows L2
/-- a cut with both ends, the last one anywhere -/
theorem cut_two {α : Type} (zs : List α) {a b : Int} (h0 : 0 ≤ a) (h1 : a ≤ b) : cut zs (some a) (some b) = (zs.drop a.toNat).take (b - a).toNat := by
  by_cases h2 : b ≤ zs.length
  · exact cut_mid zs h0 h1 h2
  · by_cases h3 : a ≤ zs.length
    · have e : cut zs (some a) (some b) = cut zs (some a) (some (zs.length : Int)) := by
        unfold cut HT.sIx
        simp only [if_neg (show ¬ a < 0 by omega), if_neg (show ¬ b < 0 by omega), if_neg (show ¬ (zs.length : Int) < 0 by omega)]
        congr 2
        omega
      rw [e, cut_mid zs h0 h3 (Int.le_refl _)]
      rw [List.take_of_length_le (by rw [List.length_drop]; omega), List.take_of_length_le (by rw [List.length_drop]; omega)]
    · have e1 : zs.drop a.toNat = [] := List.drop_eq_nil_of_le (by omega)
      rw [e1, List.take_nil]
      apply List.eq_nil_of_length_eq_zero
      unfold cut HT.sIx
      simp only [if_neg (show ¬ a < 0 by omega), if_neg (show ¬ b < 0 by omega), List.length_take, List.length_drop]
      omega
/-- the greatest of some numbers and 0 -/
def nearF (xs : List Int) : Int := xs.foldl max 0
theorem foldl_max_ge (xs : List Int) : ∀ a : Int, a ≤ xs.foldl max a := by
  induction xs with
  | nil => intro a; exact Int.le_refl _
  | cons x xs ih => intro a; have := ih (max a x); simp only [List.foldl_cons]; omega
theorem foldl_max_le (xs : List Int) : ∀ {a k : Int}, k ≤ xs.foldl max a ↔ k ≤ a ∨ ∃ z ∈ xs, k ≤ z := by
  induction xs with
  | nil => intro a k; simp
  | cons x xs ih =>
    intro a k
    simp only [List.foldl_cons, ih, List.mem_cons, exists_eq_or_imp]
    constructor
    · rintro (h | h)
      · by_cases c : k ≤ a
        · exact .inl c
        · exact .inr (.inl (by omega))
      · exact .inr (.inr h)
    · rintro (h | h | h)
      · exact .inl (by omega)
      · exact .inl (by omega)
      · exact .inr h
theorem near_le {xs : List Int} {k : Int} (hk : 1 ≤ k) : k ≤ nearF xs ↔ ∃ z ∈ xs, k ≤ z := by
  unfold nearF
  rw [foldl_max_le]
  exact ⟨fun h => h.elim (fun h => by omega) id, .inr⟩
theorem near_0 (xs : List Int) : 0 ≤ nearF xs := foldl_max_ge xs 0
theorem near_is {xs : List Int} {m : Int} (h1 : m ∈ 0 :: xs) (h2 : ∀ y, y ∈ 0 :: xs → y ≤ m) : m = nearF xs := by
  have a1 : m ≤ nearF xs := by
    unfold nearF
    rw [foldl_max_le]
    rcases List.mem_cons.mp h1 with h | h
    · exact .inl (by omega)
    · exact .inr ⟨m, h, Int.le_refl _⟩
  have a2 : nearF xs ≤ m := by
    have h0 := h2 0 (by simp)
    by_cases c : nearF xs = 0
    · omega
    · have := near_0 xs
      have hn : nearF xs ≤ nearF xs := Int.le_refl _
      rw [show nearF xs = xs.foldl max 0 from rfl] at hn c this
      rcases (foldl_max_le xs).mp hn with h | ⟨z, hz, h⟩
      · omega
      · have := h2 z (by simp [hz])
        show xs.foldl max 0 ≤ m
        omega
  omega
/-- one look: what is kept of the past, what is on -/
def lookS (many : Nat) (s : List Int × Int) (x : Int) (ah : List Int) : List Int × Int :=
  ((s.1 ++ [x]).drop (s.1.length + 1 - min (s.1.length + 1) many), max x (min s.2 (nearF (s.1 ++ ah))))
/-- behind so many ticks; hd: what is seen ahead at each tick -/
def sRun (many : Nat) (hd : Nat → List Int) (needs : List Int) : Nat → List Int × Int
  | 0 => ([], 0)
  | t + 1 => lookS many (sRun many hd needs t) (needs.getD t 0) (hd t)
/-- a layer: how long it was not needed, whether it is on -/
def layS (keep : Int) (hd : Nat → List Int) (needs : List Int) (k : Int) : Nat → Int × Bool
  | 0 => (0, false)
  | t + 1 =>
    let x := needs.getD t 0
    let idle := if k ≤ x then 0 else (layS keep hd needs k t).1 + 1
    (idle, decide (k ≤ x) || ((layS keep hd needs k t).2 && (decide (idle < keep) || (x :: hd t).any fun z => decide (k ≤ z))))
theorem past_is {many : Nat} {hd : Nat → List Int} {needs : List Int} : ∀ t : Nat, t ≤ needs.length → (sRun many hd needs t).1 = (needs.take t).drop (t - many)
  | 0, _ => by simp [sRun]
  | t + 1, h => by
    have ih := past_is (many := many) (hd := hd) (needs := needs) t (by omega)
    have hx : needs.take (t + 1) = needs.take t ++ [needs.getD t 0] := by
      rw [List.take_add_one, List.getD_eq_getElem?_getD]
      rw [List.getElem?_eq_getElem (by omega)]
      rfl
    show ((sRun many hd needs t).1 ++ [needs.getD t 0]).drop _ = _
    rw [ih, hx]
    have l1 : ((needs.take t).drop (t - many)).length = t - (t - many) := by
      rw [List.length_drop, List.length_take]; omega
    rw [l1]
    have e1 : (needs.take t).drop (t - many) ++ [needs.getD t 0] = (needs.take t ++ [needs.getD t 0]).drop (t - many) := by
      rw [List.drop_append_of_le_length (by rw [List.length_take]; omega)]
    rw [e1, List.drop_drop]
    congr 1
    omega
/-- while a layer is on, its last need is so long ago -/
theorem lay_idle {keep : Int} {hd : Nat → List Int} {needs : List Int} {k : Int} : ∀ t : Nat, (layS keep hd needs k t).2 = true →
    ∃ l : Nat, l < t ∧ (layS keep hd needs k t).1 = (t : Int) - 1 - (l : Int) ∧ k ≤ needs.getD l 0 ∧ ∀ j : Nat, l < j → j < t → needs.getD j 0 < k
  | 0, h => by simp [layS] at h
  | t + 1, h => by
    by_cases c : k ≤ needs.getD t 0
    · refine ⟨t, by omega, ?_, c, fun j h1 h2 => by omega⟩
      simp only [layS, if_pos c]
      omega
    · have h2 : (layS keep hd needs k t).2 = true := by
        simp only [layS, decide_eq_false c, Bool.false_or, Bool.and_eq_true] at h
        exact h.1
      obtain ⟨l, a1, a2, a3, a4⟩ := lay_idle t h2
      refine ⟨l, by omega, ?_, a3, fun j h1 h3 => ?_⟩
      · simp only [layS, if_neg c]
        omega
      · by_cases e : j = t
        · subst e; omega
        · exact a4 j h1 (by omega)
theorem on_lay {many : Nat} {keep : Int} {hd : Nat → List Int} {needs : List Int} {k : Int} (hk : 1 ≤ k) (hm : keep = (many : Int) + 1) : ∀ t : Nat, t ≤ needs.length → (k ≤ (sRun many hd needs t).2 ↔ (layS keep hd needs k t).2 = true)
  | 0, _ => by simp [sRun, layS]; omega
  | t + 1, ht => by
    have ih := on_lay (many := many) (hd := hd) (needs := needs) hk hm t (by omega)
    have hp := past_is (many := many) (hd := hd) (needs := needs) t (by omega)
    show k ≤ max (needs.getD t 0) (min (sRun many hd needs t).2 (nearF ((sRun many hd needs t).1 ++ hd t))) ↔ _
    by_cases c : k ≤ needs.getD t 0
    · constructor
      · intro _
        simp only [layS, decide_eq_true c, Bool.true_or]
      · intro _; omega
    · have e1 : (k ≤ max (needs.getD t 0) (min (sRun many hd needs t).2 (nearF ((sRun many hd needs t).1 ++ hd t)))) ↔ (k ≤ (sRun many hd needs t).2 ∧ k ≤ nearF ((sRun many hd needs t).1 ++ hd t)) := by omega
      rw [e1, near_le hk, ih, hp]
      simp only [layS, decide_eq_false c, Bool.false_or, Bool.and_eq_true, if_neg c, Bool.or_eq_true, decide_eq_true_eq, List.any_cons, Bool.false_or, List.any_eq_true]
      refine and_congr_right fun hon => ?_
      obtain ⟨l, a1, a2, a3, a4⟩ := lay_idle t hon
      rw [a2]
      constructor
      · rintro ⟨z, hz, hkz⟩
        rcases List.mem_append.mp hz with hz | hz
        · left
          obtain ⟨j, hj⟩ := List.mem_iff_getElem?.mp hz
          rw [List.getElem?_drop, List.getElem?_take] at hj
          split at hj
          · rename_i hlt
            have : needs.getD (t - many + j) 0 = z := by rw [List.getD_eq_getElem?_getD, hj]; rfl
            by_cases hl : l < t - many + j
            · have := a4 _ hl hlt
              omega
            · omega
          · cases hj
        · right
          exact ⟨z, hz, hkz⟩
      · rintro (h | ⟨z, hz, hkz⟩)
        · refine ⟨needs.getD l 0, List.mem_append_left _ ?_, a3⟩
          refine List.mem_iff_getElem?.mpr ⟨l - (t - many), ?_⟩
          rw [List.getElem?_drop, List.getElem?_take, if_pos (by omega), show t - many + (l - (t - many)) = l by omega, List.getD_eq_getElem?_getD, List.getElem?_eq_getElem (by omega)]
          rfl
        · exact ⟨z, List.mem_append_right _ hz, hkz⟩
theorem on_ge {many : Nat} {hd : Nat → List Int} {needs : List Int} : ∀ t : Nat, 0 ≤ (sRun many hd needs t).2
  | 0 => Int.le_refl _
  | t + 1 => by
    have h1 := on_ge (many := many) (hd := hd) (needs := needs) t
    have h2 := near_0 ((sRun many hd needs t).1 ++ hd t)
    show 0 ≤ max _ (min _ _)
    omega
theorem on_need {many : Nat} {hd : Nat → List Int} {needs : List Int} (t : Nat) : needs.getD t 0 ≤ (sRun many hd needs (t + 1)).2 := by
  show _ ≤ max _ _
  omega
theorem on_top {many : Nat} {hd : Nat → List Int} {needs : List Int} : ∀ t : Nat, t ≤ needs.length → (sRun many hd needs t).2 ≤ topN needs
  | 0, _ => by
    show (0 : Int) ≤ (0 :: needs).foldl max 0
    exact foldl_max_ge _ _
  | t + 1, ht => by
    have ih := on_top (many := many) (hd := hd) (needs := needs) t (by omega)
    have hx : needs.getD t 0 ≤ topN needs := by
      unfold topN
      rw [foldl_max_le]
      refine .inr ⟨needs.getD t 0, List.mem_cons_of_mem _ ?_, Int.le_refl _⟩
      rw [List.getD_eq_getElem?_getD, List.getElem?_eq_getElem (by omega)]
      exact List.getElem_mem _
    show max _ (min _ _) ≤ _
    omega
/-- a runner's row -/
def sightR (many : Nat) (hd : Nat → List Int) (needs : List Int) : List Int := (List.range needs.length).map fun t => (sRun many hd needs (t + 1)).2
/-- what is ahead, seen to h ticks on -/
def aheadL (needs : List Int) (h : Nat → Nat) (t : Nat) : List Int := (needs.drop (t + 1)).take (h t)
theorem drop_get (needs : List Int) {t : Nat} (h : t < needs.length) : needs.drop t = needs.getD t 0 :: needs.drop (t + 1) := by
  rw [List.getD_eq_getElem?_getD, List.getElem?_eq_getElem h]
  exact List.drop_eq_getElem_cons h
end Sq
/-! Sq93: the sight runner's object, its runs, the law's layers -/
namespace Sq
open PySem PySem.Spec PyProof.Rows L2
/-- a comprehension over a range, what is around told turn by turn -/
theorem comp_laps {n : Nat} {g : WG} {t : WT} {el : WE} {vs : List Nat} {k : Nat} {Q : List D → En → Prop} (I : Nat → List D → En → Prop) {e : En} (h0 : I 0 [] e)
    (h : ∀ i acc e, i < n → I i acc e → ∀ K : Option D → En → Prop, (∀ r e', I (i + 1) (acc ++ r.toList) e' → K r e') → turnW g t el vs k (.int (i : Int)) e K) (q : ∀ acc e, I n acc e → Q acc e) : compW g t el vs k (rangeL 0 n) [] e Q := by
  refine comp_inv (done := []) (fun done acc e => I done.length acc e) rfl h0 ?_ (fun acc e i => q acc e (by simpa [rangeL] using i))
  rintro done d rest acc e hd hi K hK
  have hl : done.length < n := by
    have := congrArg List.length hd
    simp [rangeL] at this
    omega
  have ed : d = .int (done.length : Int) := by
    have h1 : (rangeL 0 n)[done.length]? = some d := by
      rw [show rangeL 0 n = [] ++ rangeL 0 n by rfl, hd, List.getElem?_append_right (Nat.le_refl _), Nat.sub_self]
      rfl
    unfold rangeL at h1
    rw [List.getElem?_map, List.getElem?_range hl] at h1
    simpa using h1.symm
  rw [ed]
  refine h _ acc e hl hi K fun r e' hi' => hK r e' ?_
  rw [List.length_append, List.length_singleton]
  exact hi'
/-- the sight runner's object -/
def sightD (many w : Int) (past : List Int) (on : Int) : D := .dict [oMark "SightRunner", (fkD "many", .int many), (fkD "w", .int w), (fkD "past", .list (past.map .int)), (fkD "on", .int on)]
theorem y_sight {many w on : Int} {past : List Int} : sightD many w past on = .dict [oMark "SightRunner", (fkD "many", .int many), (fkD "w", .int w), (fkD "past", .list (past.map .int)), (fkD "on", .int on)] := rfl
def F_SightRunner_init : FS := ⟨[.io 1, .val, .val], fun ds R => ∃ (b : Int) (w : Int), ds = [.dict [oMark "SightRunner"], .int b, .int w] ∧ (R 0 .none [sightD (b - 1 - w) w [] 0])⟩
theorem SightRunner_init_ms : F_SightRunner_init.ms = [.io 1, .val, .val] := rfl
theorem SightRunner_init_sp {zz0 : List (D × D)} {b : Int} {w : Int} {R : Nat → D → List D → Prop} : F_SightRunner_init.sp [.dict zz0, .int b, .int w] R = (zz0 = [oMark "SightRunner"] ∧ (R 0 .none [sightD (b - 1 - w) w [] 0])) := by
  apply propext
  constructor
  · rintro ⟨u'b, u'w, e, h⟩
    cases e
    exact ⟨rfl, h⟩
  · rintro ⟨rfl, h⟩
    exact ⟨b, w, rfl, h⟩
def F_SightRunner_look : FS := ⟨[.io 1, .val], fun ds R => ∃ (many : Int) (w : Int) (s : List Int × Int) (x : Int) (seen : List Int), ds = [sightD many w s.1 s.2, .tuple (.int x :: seen.map .int)] ∧ (0 ≤ many ∧ 0 ≤ w ∧ s.1.length ≤ 1000000 ∧ seen.length ≤ 1000000 ∧ ∀ s', s' = lookS many.toNat s x (seen.take w.toNat) → R 0 (.int s'.2) [sightD many w s'.1 s'.2])⟩
theorem SightRunner_look_ms : F_SightRunner_look.ms = [.io 1, .val] := rfl
theorem SightRunner_look_sp {zz0 : D} {zz1 : List D} {R : Nat → D → List D → Prop} : F_SightRunner_look.sp [zz0, .tuple zz1] R = (∃ (many : Int) (w : Int) (s : List Int × Int) (x : Int) (seen : List Int), zz0 = sightD many w s.1 s.2 ∧ zz1 = (.int x :: seen.map .int) ∧ (0 ≤ many ∧ 0 ≤ w ∧ s.1.length ≤ 1000000 ∧ seen.length ≤ 1000000 ∧ ∀ s', s' = lookS many.toNat s x (seen.take w.toNat) → R 0 (.int s'.2) [sightD many w s'.1 s'.2])) := by
  apply propext
  constructor
  · rintro ⟨many, w, s, x, seen, e, h⟩
    cases e
    exact ⟨many, w, s, x, seen, rfl, rfl, h⟩
  · rintro ⟨many, w, s, x, seen, rfl, rfl, h⟩
    exact ⟨many, w, s, x, seen, rfl, h⟩
def F_run_sight : FS := ⟨[.io 1, .val, .val], fun ds R => ∃ (many : Int) (w : Int) (v : D) (needs : List Int), ds = [sightD many w [] 0, v, .int w] ∧ ((v = .tuple (needs.map .int) ∨ v = .list (needs.map .int)) ∧ 0 ≤ many ∧ 0 ≤ w ∧ w ≤ 1000000 ∧ needs.length ≤ 100000 ∧ ∀ o, R 0 (.tuple ((sightR many.toNat (aheadL needs fun _ => w.toNat) needs).map .int)) [o])⟩
theorem run_sight_ms : F_run_sight.ms = [.io 1, .val, .val] := rfl
theorem run_sight_sp {zz0 : D} {v : D} {w : Int} {R : Nat → D → List D → Prop} : F_run_sight.sp [zz0, v, .int w] R = (∃ (many : Int) (needs : List Int), zz0 = sightD many w [] 0 ∧ ((v = .tuple (needs.map .int) ∨ v = .list (needs.map .int)) ∧ 0 ≤ many ∧ 0 ≤ w ∧ w ≤ 1000000 ∧ needs.length ≤ 100000 ∧ ∀ o, R 0 (.tuple ((sightR many.toNat (aheadL needs fun _ => w.toNat) needs).map .int)) [o])) := by
  apply propext
  constructor
  · rintro ⟨many, u'w, u'v, needs, e, h⟩
    cases e
    exact ⟨many, needs, rfl, h⟩
  · rintro ⟨many, needs, rfl, h⟩
    exact ⟨many, w, v, needs, rfl, h⟩
def F_sight_row : FS := ⟨[.val, .val, .val], fun ds R => ∃ (needs : List Int) (b : Int) (w : Int), ds = [.tuple (needs.map .int), .int b, .int w] ∧ (0 ≤ w ∧ w ≤ b - 1 ∧ w ≤ 1000000 ∧ needs.length ≤ 100000 ∧ R 0 (.tuple ((sightR (b - 1 - w).toNat (aheadL needs fun _ => w.toNat) needs).map .int)) [])⟩
theorem sight_row_ms : F_sight_row.ms = [.val, .val, .val] := rfl
theorem sight_row_sp {zz0 : List D} {b : Int} {w : Int} {R : Nat → D → List D → Prop} : F_sight_row.sp [.tuple zz0, .int b, .int w] R = (∃ (needs : List Int), zz0 = (needs.map .int) ∧ (0 ≤ w ∧ w ≤ b - 1 ∧ w ≤ 1000000 ∧ needs.length ≤ 100000 ∧ R 0 (.tuple ((sightR (b - 1 - w).toNat (aheadL needs fun _ => w.toNat) needs).map .int)) [])) := by
  apply propext
  constructor
  · rintro ⟨needs, u'b, u'w, e, h⟩
    cases e
    exact ⟨needs, rfl, h⟩
  · rintro ⟨needs, rfl, h⟩
    exact ⟨needs, b, w, rfl, h⟩
def F__law_mixed : FS := ⟨[.io 2, .val], fun ds R => ∃ (N : Nat) (src : D) (xs : List D), ds = [src, .list xs] ∧ (Src N src ∧ N ≤ 2 ^ 50 ∧ xs.length ≤ 1000 ∧ ∀ (ys : List D) (src' : D), ys.Perm xs → Src (N + xs.length) src' → R 0 (.list ys) [src'])⟩
theorem law_mixed_ms : F__law_mixed.ms = [.io 2, .val] := rfl
theorem law_mixed_sp {src : D} {xs : List D} {R : Nat → D → List D → Prop} : F__law_mixed.sp [src, .list xs] R = (∃ (N : Nat), (Src N src ∧ N ≤ 2 ^ 50 ∧ xs.length ≤ 1000 ∧ ∀ (ys : List D) (src' : D), ys.Perm xs → Src (N + xs.length) src' → R 0 (.list ys) [src'])) := by
  apply propext
  constructor
  · rintro ⟨N, u'src, u'xs, e, h⟩
    cases e
    exact ⟨N, h⟩
  · rintro ⟨N, h⟩
    exact ⟨N, src, xs, rfl, h⟩
def F__law_some_sight : FS := ⟨[.io 2, .val], fun ds R => ∃ (N : Nat) (src : D) (most : Int), ds = [src, .int most] ∧ (Src N src ∧ N ≤ 2 ^ 50 ∧ 1 ≤ most ∧ most ≤ 1000000 ∧ ∀ (b w : Int) (src' : D), 1 ≤ b → b ≤ most → 0 ≤ w → w ≤ b - 1 → Src (N + 3) src' → R 0 (.tuple [.int b, .int w]) [src'])⟩
theorem law_some_sight_ms : F__law_some_sight.ms = [.io 2, .val] := rfl
theorem law_some_sight_sp {src : D} {most : Int} {R : Nat → D → List D → Prop} : F__law_some_sight.sp [src, .int most] R = (∃ (N : Nat), (Src N src ∧ N ≤ 2 ^ 50 ∧ 1 ≤ most ∧ most ≤ 1000000 ∧ ∀ (b w : Int) (src' : D), 1 ≤ b → b ≤ most → 0 ≤ w → w ≤ b - 1 → Src (N + 3) src' → R 0 (.tuple [.int b, .int w]) [src'])) := by
  apply propext
  constructor
  · rintro ⟨N, u'src, u'most, e, h⟩
    cases e
    exact ⟨N, h⟩
  · rintro ⟨N, h⟩
    exact ⟨N, src, most, rfl, h⟩
def F__law_sight_row : FS := ⟨[.val, .val, .val], fun ds R => ∃ (needs : List Int) (b : Int) (w : Int), ds = [.tuple (needs.map .int), .int b, .int w] ∧ (0 ≤ w ∧ w ≤ b - 1 ∧ b ≤ 1000000 ∧ needs.length ≤ 100000 ∧ (∀ x ∈ needs, 0 ≤ x ∧ x ≤ 10000000) ∧ R 0 (.tuple ((sightR (b - 1 - w).toNat (aheadL needs fun _ => w.toNat) needs).map .int)) [])⟩
theorem law_sight_row_ms : F__law_sight_row.ms = [.val, .val, .val] := rfl
theorem law_sight_row_sp {zz0 : List D} {b : Int} {w : Int} {R : Nat → D → List D → Prop} : F__law_sight_row.sp [.tuple zz0, .int b, .int w] R = (∃ (needs : List Int), zz0 = (needs.map .int) ∧ (0 ≤ w ∧ w ≤ b - 1 ∧ b ≤ 1000000 ∧ needs.length ≤ 100000 ∧ (∀ x ∈ needs, 0 ≤ x ∧ x ≤ 10000000) ∧ R 0 (.tuple ((sightR (b - 1 - w).toNat (aheadL needs fun _ => w.toNat) needs).map .int)) [])) := by
  apply propext
  constructor
  · rintro ⟨needs, u'b, u'w, e, h⟩
    cases e
    exact ⟨needs, rfl, h⟩
  · rintro ⟨needs, rfl, h⟩
    exact ⟨needs, b, w, rfl, h⟩
def F__law_shown_row : FS := ⟨[.val, .val, .val, .val], fun ds R => ∃ (needs : List Int) (b : Int) (w : Int) (shows : List Int), ds = [.tuple (needs.map .int), .int b, .int w, .list (shows.map .int)] ∧ (0 ≤ w ∧ w ≤ b - 1 ∧ b ≤ 1000000 ∧ needs.length ≤ 100000 ∧ shows.length = needs.length ∧ (∀ x ∈ needs, 0 ≤ x ∧ x ≤ 10000000) ∧ (∀ x ∈ shows, 0 ≤ x ∧ x ≤ 1000000) ∧ R 0 (.tuple ((sightR (b - 1 - w).toNat (aheadL needs fun t => (min (shows.getD t 0) w).toNat) needs).map .int)) [])⟩
theorem law_shown_row_ms : F__law_shown_row.ms = [.val, .val, .val, .val] := rfl
theorem law_shown_row_sp {zz0 : List D} {b : Int} {w : Int} {zz3 : List D} {R : Nat → D → List D → Prop} : F__law_shown_row.sp [.tuple zz0, .int b, .int w, .list zz3] R = (∃ (needs : List Int) (shows : List Int), zz0 = (needs.map .int) ∧ zz3 = (shows.map .int) ∧ (0 ≤ w ∧ w ≤ b - 1 ∧ b ≤ 1000000 ∧ needs.length ≤ 100000 ∧ shows.length = needs.length ∧ (∀ x ∈ needs, 0 ≤ x ∧ x ≤ 10000000) ∧ (∀ x ∈ shows, 0 ≤ x ∧ x ≤ 1000000) ∧ R 0 (.tuple ((sightR (b - 1 - w).toNat (aheadL needs fun t => (min (shows.getD t 0) w).toNat) needs).map .int)) [])) := by
  apply propext
  constructor
  · rintro ⟨needs, u'b, u'w, shows, e, h⟩
    cases e
    exact ⟨needs, shows, rfl, rfl, h⟩
  · rintro ⟨needs, shows, rfl, rfl, h⟩
    exact ⟨needs, b, w, shows, rfl, h⟩
/-! SightRunner_init: slots 0 self 1 b 2 w; cells []; calls [] -/
def q_SightRunner_init : WS := (wSeq (wAsg (wOp oSub (wCons (wEx (wOp oSub (wCons (wSl 1) (wCons (wEx (wC (.int 1))) wNil)))) (wCons (wSl 2) wNil))) (wAddF (.s 0) "SightRunner" [] "many")) (wSeq (wAsg (wVar 2) (wAddF (.s 0) "SightRunner" ["many"] "w")) (wSeq (wAsg (wFz (wLst 0 wNil)) (wAddF (.s 0) "SightRunner" ["many", "w"] "past")) (wSeq (wAsg (wC (.int 0)) (wAddF (.s 0) "SightRunner" ["many", "w", "past"] "on")) wNext))))
/-! SightRunner_look: slots 0 self 1 seen 2 near; cells []; calls [] -/
def q_SightRunner_look : WS := (wSeq (wAsg (wOp oMax1 (wCons (wEx (wLst 0 (wCons (wEx (wC (.int 0))) (wStar (wEx (wPl (.f (.s 0) 2 "past"))) (wStar (wEx (wCut (wSl 1) (wP1 (wC (.int 1))) (wP1 (wOp oAdd (wCons (wEx (wPl (.f (.s 0) 1 "w"))) (wCons (wEx (wC (.int 1))) wNil)))))) wNil))))) wNil)) (wNmG 2)) (wSeq (wAsg (wOp oMax2 (wCons (wEx (wOp oIx (wCons (wSl 1) (wCons (wEx (wC (.int 0))) wNil)))) (wCons (wEx (wOp oMin2 (wCons (wEx (wPl (.f (.s 0) 3 "on"))) (wCons (wSl 2) wNil)))) wNil))) (wPutF (.s 0) "SightRunner" 3 "on")) (wSeq (wAsg (wFz (wCut (wEx (wLst 0 (wStar (wEx (wPl (.f (.s 0) 2 "past"))) (wCons (wEx (wOp oIx (wCons (wSl 1) (wCons (wEx (wC (.int 0))) wNil)))) wNil)))) (wP1 (wOp oSub (wCons (wEx (wOp oAdd (wCons (wEx (wUn oLen (.f (.s 0) 2 "past"))) (wCons (wEx (wC (.int 1))) wNil)))) (wCons (wEx (wOp oMin2 (wCons (wEx (wOp oAdd (wCons (wEx (wUn oLen (.f (.s 0) 2 "past"))) (wCons (wEx (wC (.int 1))) wNil)))) (wCons (wEx (wPl (.f (.s 0) 0 "many"))) wNil)))) wNil)))) wP0)) (wPutF (.s 0) "SightRunner" 2 "past")) (wSeq (wRet (wPl (.f (.s 0) 3 "on"))) wNext))))
/-! run: slots 0 runner 1 row 2 w 3 t; cells ['row', 'runner', 'w']; calls ['SightRunner_look'] -/
def q_run_sight : WS := (wSeq (wRet (wOp oTuple (wCons (wEx (wComp (wiRange1 (wOp oLen (wCons (wSl 1) wNil))) (wNmG 3) wYes (wFz (wMeth [("SightRunner", F_SightRunner_look)] (wSl 0) (wCons (wEx (wOp oTuple (wCons (wEx (wCut (wSl 1) (wP1 (wVar 3)) (wP1 (wOp oAdd (wCons (wEx (wOp oAdd (wCons (wSl 3) (wCons (wSl 2) wNil)))) (wCons (wEx (wC (.int 1))) wNil)))))) wNil))) wNil))) [3] 0)) wNil))) wNext)
/-! sight_row: slots 0 needs 1 b 2 w; cells []; calls ['run', 'SightRunner_init'] -/
def q_sight_row : WS := (wSeq (wRet (wFz (wCallT F_run_sight (wCons (wEx (wMake "SightRunner" 0 [.val, .val] F_SightRunner_init (wCons (wSl 1) (wCons (wSl 2) wNil)))) (wCons (wSl 0) (wCons (wSl 2) wNil)))))) wNext)
/-! _law_mixed: slots 0 source 1 things 2 rest 3 lap; cells ['rest', 'source']; calls ['_law_pick'] -/
/-! _law_sight_row: slots 0 needs 1 b 2 w 3 found 4 k 5 idle 6 is_on 7 t 8 need 9 seen 10 one; cells ['k']; calls [] -/
/-! _law_some_sight: slots 0 source 1 most 2 b; cells []; calls ['_law_pick', '_law_of'] -/
def q__law_some_sight : WS := (wSeq (wAsg (wOp oAdd (wCons (wEx (wC (.int 1))) (wCons (wEx (wCall F__law_pick (wCons (wSl 0) (wCons (wSl 1) wNil)))) wNil))) (wNmG 2)) (wSeq (wRet (wTup (wCons (wEx (wVar 2)) (wCons (wEx (wFz (wCall F__law_of (wCons (wSl 0) (wCons (wEx (wFz (wLst 0 (wCons (wEx (wC (.int 0))) (wCons (wEx (wOp oSub (wCons (wSl 2) (wCons (wEx (wC (.int 1))) wNil)))) (wCons (wEx (wFz (wCall F__law_pick (wCons (wSl 0) (wCons (wSl 2) wNil))))) wNil)))))) wNil))))) wNil)))) wNext))
/-! _law_shown_row: slots 0 needs 1 b 2 w 3 shows 4 found 5 k 6 idle 7 is_on 8 t 9 need 10 seen 11 one; cells ['k']; calls [] -/
local macro_rules | `(tactic| walk_at "z14") => `(tactic| simp only [x_wC, x_wEx, x_wNil, x_wCons, x_wOp, x_wT, x_wAndT, x_wOrT, x_wNotT, x_wIte, x_wAndV, x_wOrV, x_wNotV, x_wChain, x_wTru, x_wFz, x_wTup, x_wLst, x_wStar, x_wP0, x_wP1, x_wCut, x_wNext, x_wBrk, x_wCnt, x_wNever, x_wSeq, x_wNm, y_gn, y_gc, y_tp, x_wNmG, x_wAsg, x_wExpr, x_wRet, x_wRetN, x_wIf, x_wFor, x_wComp, x_wYes, x_wiSeq, x_wiEnum, x_wiRange1, x_wiRange2, y_par, y_al0, y_alC, y_app, x_wDisp, x_wDNew, x_wDNewT, x_wCall, x_wiZip, x_tmp, x_fs0, x_fs1, y_add, y_addS, y_addL, y_addT, y_sub, y_mul, y_rep, y_div, y_mod, y_pow, y_eq, y_eqS, y_eqL, y_eqT, y_ne, y_neS, y_neL, y_neT, y_lt, y_le, y_gt, y_ge, y_isN, y_notN, y_nNone, y_nInt, y_nStr, y_nTup, y_nLst, y_lenL, y_lenT, y_lenS, y_abs, y_max, y_min, y_int, y_intB, y_tupL, y_tupT, y_lstL, y_lstT, y_repr, y_neg, y_ixL, y_ixT, y_cutL, y_cutT, y_rev, y_starT, y_starL, y_starKT, y_starKL, y_itT, y_itKT, y_plain, y_itS, y_itKS, y_var, y_own, y_mv, y_seen, y_seenL, y_fetS, y_sl, y_tm0, y_tmS, y_tmI, y_tmT, y_tmX, y_tmN, y_tn0, y_tnC, y_mapS, y_io0, y_ioV, y_ioB, io_ex, y_nx, y_rt, y_fit0, y_fitT, y_fitN, y_fitX, y_fitS, y_setE0, y_setE1, y_pl, y_un, y_put, y_pop1, List.getElem?_cons_zero, List.getElem?_cons_succ, List.set_cons_zero, List.set_cons_succ, Option.some.injEq, PyData.int.injEq, PyData.bool.injEq, PyData.tuple.injEq, PyData.list.injEq, Prod.mk.injEq, Md.own.injEq, exists_eq_left', exists_eq_left, exists_eq', exists_eq, true_and, and_true, and_self, List.length_cons, List.length_nil, wipeE, restE, decide_eq_true_eq, Bool.not_eq_true', decide_eq_false_iff_not, Nat.reduceAdd, Nat.reduceLT, Nat.reduceLeDiff, Nat.zero_le, Nat.le_refl, waOf, List.map_cons, List.map_nil, Nat.zero_add, List.nil_append, Nat.lt_add_one, y_lfI, y_lfS, y_lfT, y_lfN, y_lfB, or_true, Nat.reduceSub, Nat.add_one_sub_one, List.map_append, List.length_map, exists_and_left, ↓reduceIte, Nat.lt_irrefl, y_po0, y_poS, y_poN, y_ou0, y_ouI, y_ouV, y_ouB, Bool.true_eq_false, Bool.false_eq_true, reduceCtorEq, a_nil, a_cons, a_vt, a_vs, a_is, a_bs, a_bt, a_v0, a_vl, a_vi, a_i0, a_b0, a_bl, y_bind, ok_0, ok_1, ok_2, ok_3, ok_4, ok_5, ok_6, ok_i1, ok_i2, ok_i3, ok_i4, ok_i5, ok_i6, Option.getD_some, Option.getD_none, y_appB, at_0, at_1, at_2, at_3, y_chL, y_chT, not_true_eq_false, not_false_eq_true, true_or, y_pop0, F__law_source, F__law_pick, F__law_of, F__law_draw_needs, F__law_gaps, source_ms, source_sp, pick_ms, pick_sp, of_ms, of_sp, draw_ms, draw_sp, lgaps_ms, lgaps_sp, y_ext, y_all, y_any, closed_ms, closed_sp, lsf_ms, lsf_sp, lc_ms, lc_sp, y_sumL, y_sumT, x_wIsi, x_wGlo, pl_N, pl_B, pl_I, pl_S, pl_L, pl_T, pl_D0, i_Nint, i_Nbool, i_Ntuple, i_Nstr, i_Nlist, i_Ndict, i_Bint, i_Bbool, i_Btuple, i_Bstr, i_Blist, i_Bdict, i_Iint, i_Ibool, i_Ituple, i_Istr, i_Ilist, i_Idict, i_Sint, i_Sbool, i_Stuple, i_Sstr, i_Slist, i_Sdict, i_Lint, i_Lbool, i_Ltuple, i_Lstr, i_Llist, i_Ldict, i_Tint, i_Tbool, i_Ttuple, i_Tstr, i_Tlist, i_Tdict, i_Dint, i_Dbool, i_Dtuple, i_Dstr, i_Dlist, i_Ddict, y_in, y_nin, y_ge2, y_ge2T, y_maxA, y_minA, y_mulT, kx_c, kx_v, kx_add, kx_sub, kx_it, kc_0, kx_i, kx_s, ko_add, ko_sub, y_plA, y_plB, y_plV, y_putA, y_putV, x_wShare, y_ixCD, y_din, y_dnin, wForK, wCompK, x_wLk, x_wLkS, x_wiKeys, y_own0, y_dictAt, x_disp1, keyOk_i, keyOk_s, y_listK, y_valsK, y_itemsK, plain_R, keys_R, vals_R, look_R, has_R, y_neE, y_addK, y_neDict, x_wLC, x_wiRange3, x_wIdx, y_isL, y_index, x_wiKeysB1, endX, x_wRaise, x_wRetX, x_wExpX, x_wSetX, x_wCX, x_wTryR, y_inTp, y_ninTp, y_eqEt, x_wMeth, y_m1, y_obP, y_fch, isFk_self, x_wMake, x_wCallT, y_lifN, y_lifT, y_lifS, y_lifV, y_lifB, y_plF, y_unF, y_putF, y_addF, x_wPopI, y_bs, y_ms, y_tk0, y_tkS, Option.map_some, List.cons_append, valleys_ms, valleys_sp, law_valleys_ms, law_valleys_sp, is_number_ms, is_number_sp, law_is_number_ms, law_is_number_sp, is_form_ms, is_form_sp, is_valley_ms, is_valley_sp, judge_need_paper_ms, judge_need_paper_sp, law_paper_fault_ms, law_paper_fault_sp, need_paper_ms, need_paper_sp, worth_at_ms, worth_at_sp, low_of_ms, low_of_sp, high_of_ms, high_of_sp, held_slope_ms, held_slope_sp, sum_of_ms, sum_of_sp, held_worth_ms, held_worth_sp, held_ms, held_sp, work_after_ms, work_after_sp, works_of_ms, works_of_sp, least_costs_ms, least_costs_sp, least_cost_ms, least_cost_sp, law_draw_slots_ms, law_draw_slots_sp, law_great_slots_ms, law_great_slots_sp, law_slot_costs_ms, law_slot_costs_sp, law_going_ms, law_going_sp, law_work_told_ms, law_work_told_sp, law_low_ms, law_low_sp, law_high_ms, law_high_sp, ended_ms, ended_sp, best_row_ms, best_row_sp, law_starts_ms, law_starts_sp, law_price_ms, law_price_sp, law_least_cost_ms, law_least_cost_sp, plain_slot_ms, plain_slot_sp, law_all_rows_ms, law_all_rows_sp, law_need_costs_ms, law_need_costs_sp, least_by_layers_ms, least_by_layers_sp, steps_behind_ms, steps_behind_sp, least_by_steps_ms, least_by_steps_sp, law_worths_ms, law_worths_sp, law_some_work_ms, law_some_work_sp, law_added_ms, law_added_sp, law_held_ms, law_held_sp, slot_cost_ms, slot_cost_sp, serves_ms, serves_sp, starts_ms, starts_sp, stops_ms, stops_sp, running_cost_ms, running_cost_sp, row_cost_ms, row_cost_sp, law_some_row_ms, law_some_row_sp, least_numbers_ms, least_numbers_sp, bound_of_ms, bound_of_sp, law_bound_ms, law_bound_sp, best_by_layers_ms, best_by_layers_sp, law_best_row_ms, law_best_row_sp, span_of_ms, span_of_sp, prices_for_ms, prices_for_sp, paper_of_ms, paper_of_sp, is_integer_ms, is_integer_sp, are_integers_ms, are_integers_sp, first_where_ms, first_where_sp, is_least_ms, is_least_sp, judge_paper_ms, judge_paper_sp, law_price_fault_ms, law_price_fault_sp, law_need_fault_ms, law_need_fault_sp, row_layers_ms, row_layers_sp, SightRunner_init_ms, SightRunner_init_sp, SightRunner_look_ms, SightRunner_look_sp, run_sight_ms, run_sight_sp, sight_row_ms, sight_row_sp, law_mixed_ms, law_mixed_sp, law_some_sight_ms, law_some_sight_sp, law_sight_row_ms, law_sight_row_sp, law_shown_row_ms, law_shown_row_sp])
theorem law_SightRunner_init (ds : List D) (R : Nat → D → List D → Prop) (h : F_SightRunner_init.sp ds R) : q_SightRunner_init (entE [.io 1, .val, .val] ds ++ List.replicate 0 none) (endK [.io 1, .val, .val] R) := by
  obtain ⟨b, w, rfl, hR⟩ := h
  have szl : sizeLine = 16777216 := sizeLine_eq
  unfold q_SightRunner_init
  show (wSeq _ _) [some (.own 1, .dict [oMark "SightRunner"]), some (.own 0, .int b), some (.own 0, .int w)] _
  walk_at "z14"
  exact hR
theorem law_SightRunner_look (ds : List D) (R : Nat → D → List D → Prop) (h : F_SightRunner_look.sp ds R) : q_SightRunner_look (entE [.io 1, .val] ds ++ List.replicate 1 none) (endK [.io 1, .val] R) := by
  obtain ⟨many, w, s, x, seen, rfl, hm, hw, hl, hl2, hR⟩ := h
  have szl : sizeLine = 16777216 := sizeLine_eq
  unfold q_SightRunner_look
  show (wSeq _ _) [some (.own 1, sightD many w s.1 s.2), some (.own 0, .tuple (.int x :: seen.map .int)), none] _
  rw [y_sight]
  walk_at "z14"
  have ec : cut (PyData.int x :: seen.map PyData.int) (some 1) (some (w + 1)) = (seen.take w.toNat).map PyData.int := by
    rw [cut_two _ (by decide) (by omega)]
    show ((seen.map PyData.int)).take _ = _
    rw [← List.map_take]
    congr 2
    omega
  have ta : ∀ xs : List D, tmpsK 0 (xs.map (Opd.tmp 0)) = some xs := fun xs => by have := tmps_all xs; rwa [List.append_nil] at this
  rw [ec, List.append_nil, ← List.map_append, ta, ← List.map_append]
  have e2 : List.map (Opd.tmp 0) (List.map PyData.int s.1) ++ [Opd.tmp 0 (PyData.int x)] = ((s.1 ++ [x]).map PyData.int).map (Opd.tmp 0) := by simp
  rw [e2, ta]
  have hml := List.length_take_le' w.toNat seen
  refine ⟨(0 :: (s.1 ++ seen.take w.toNat)).map .int, rfl, by rw [szl]; simp only [List.length_cons, List.length_map, List.length_append]; omega, ?_⟩
  rw [y_max1]
  refine ⟨Nat.le_refl _, by simp, fun m h1 h2 => ?_⟩
  have em := near_is h1 h2
  walk_at "z14"
  refine ⟨by rw [szl]; simp only [List.length_map, List.length_append, List.length_singleton]; omega, ?_⟩
  have e3 : cut (s.1.map PyData.int ++ [PyData.int x]) (some ((s.1.length : Int) + 1 - min ((s.1.length : Int) + 1) many)) none = ((s.1 ++ [x]).drop (s.1.length + 1 - min (s.1.length + 1) many.toNat)).map PyData.int := by
    rw [cut_drop _ (by omega), show s.1.map PyData.int ++ [PyData.int x] = (s.1 ++ [x]).map PyData.int by simp, ← List.map_drop]
    congr 2
    omega
  rw [e3]
  have := hR _ rfl
  unfold lookS at this
  rw [em]
  exact this
theorem sRun_step {many : Nat} {hd : Nat → List Int} {needs : List Int} (t : Nat) : sRun many hd needs (t + 1) = lookS many (sRun many hd needs t) (needs.getD t 0) (hd t) := rfl
theorem past_len {many : Nat} {hd : Nat → List Int} {needs : List Int} {t : Nat} (h : t ≤ needs.length) : (sRun many hd needs t).1.length ≤ needs.length := by
  rw [past_is t h, List.length_drop, List.length_take]
  omega
local macro_rules | `(tactic| walk_at "z15") => `(tactic| simp only [turnW, y_sight, x_wC, x_wEx, x_wNil, x_wCons, x_wOp, x_wT, x_wAndT, x_wOrT, x_wNotT, x_wIte, x_wAndV, x_wOrV, x_wNotV, x_wChain, x_wTru, x_wFz, x_wTup, x_wLst, x_wStar, x_wP0, x_wP1, x_wCut, x_wNext, x_wBrk, x_wCnt, x_wNever, x_wSeq, x_wNm, y_gn, y_gc, y_tp, x_wNmG, x_wAsg, x_wExpr, x_wRet, x_wRetN, x_wIf, x_wFor, x_wComp, x_wYes, x_wiSeq, x_wiEnum, x_wiRange1, x_wiRange2, y_par, y_al0, y_alC, y_app, x_wDisp, x_wDNew, x_wDNewT, x_wCall, x_wiZip, x_tmp, x_fs0, x_fs1, y_add, y_addS, y_addL, y_addT, y_sub, y_mul, y_rep, y_div, y_mod, y_pow, y_eq, y_eqS, y_eqL, y_eqT, y_ne, y_neS, y_neL, y_neT, y_lt, y_le, y_gt, y_ge, y_isN, y_notN, y_nNone, y_nInt, y_nStr, y_nTup, y_nLst, y_lenL, y_lenT, y_lenS, y_abs, y_max, y_min, y_int, y_intB, y_tupL, y_tupT, y_lstL, y_lstT, y_repr, y_neg, y_ixL, y_ixT, y_cutL, y_cutT, y_rev, y_starT, y_starL, y_starKT, y_starKL, y_itT, y_itKT, y_plain, y_itS, y_itKS, y_var, y_own, y_mv, y_seen, y_seenL, y_fetS, y_sl, y_tm0, y_tmS, y_tmI, y_tmT, y_tmX, y_tmN, y_tn0, y_tnC, y_mapS, y_io0, y_ioV, y_ioB, io_ex, y_nx, y_rt, y_fit0, y_fitT, y_fitN, y_fitX, y_fitS, y_setE0, y_setE1, y_pl, y_un, y_put, y_pop1, List.getElem?_cons_zero, List.getElem?_cons_succ, List.set_cons_zero, List.set_cons_succ, Option.some.injEq, PyData.int.injEq, PyData.bool.injEq, PyData.tuple.injEq, PyData.list.injEq, Prod.mk.injEq, Md.own.injEq, exists_eq_left', exists_eq_left, exists_eq', exists_eq, true_and, and_true, and_self, List.length_cons, List.length_nil, wipeE, restE, decide_eq_true_eq, Bool.not_eq_true', decide_eq_false_iff_not, Nat.reduceAdd, Nat.reduceLT, Nat.reduceLeDiff, Nat.zero_le, Nat.le_refl, waOf, List.map_cons, List.map_nil, Nat.zero_add, List.nil_append, Nat.lt_add_one, y_lfI, y_lfS, y_lfT, y_lfN, y_lfB, or_true, Nat.reduceSub, Nat.add_one_sub_one, List.map_append, List.length_map, exists_and_left, ↓reduceIte, Nat.lt_irrefl, Nat.reduceLT, y_po0, y_poS, y_poN, y_ou0, y_ouI, y_ouV, y_ouB, Bool.true_eq_false, Bool.false_eq_true, reduceCtorEq, a_nil, a_cons, a_vt, a_vs, a_is, a_bs, a_bt, a_v0, a_vl, a_vi, a_i0, a_b0, a_bl, y_bind, ok_0, ok_1, ok_2, ok_3, ok_4, ok_5, ok_6, ok_i1, ok_i2, ok_i3, ok_i4, ok_i5, ok_i6, Option.getD_some, Option.getD_none, y_appB, at_0, at_1, at_2, at_3, y_chL, y_chT, not_true_eq_false, not_false_eq_true, true_or, y_pop0, F__law_source, F__law_pick, F__law_of, F__law_draw_needs, F__law_gaps, source_ms, source_sp, pick_ms, pick_sp, of_ms, of_sp, draw_ms, draw_sp, lgaps_ms, lgaps_sp, y_ext, y_all, y_any, closed_ms, closed_sp, lsf_ms, lsf_sp, lc_ms, lc_sp, y_sumL, y_sumT, x_wIsi, x_wGlo, pl_N, pl_B, pl_I, pl_S, pl_L, pl_T, pl_D0, i_Nint, i_Nbool, i_Ntuple, i_Nstr, i_Nlist, i_Ndict, i_Bint, i_Bbool, i_Btuple, i_Bstr, i_Blist, i_Bdict, i_Iint, i_Ibool, i_Ituple, i_Istr, i_Ilist, i_Idict, i_Sint, i_Sbool, i_Stuple, i_Sstr, i_Slist, i_Sdict, i_Lint, i_Lbool, i_Ltuple, i_Lstr, i_Llist, i_Ldict, i_Tint, i_Tbool, i_Ttuple, i_Tstr, i_Tlist, i_Tdict, i_Dint, i_Dbool, i_Dtuple, i_Dstr, i_Dlist, i_Ddict, y_in, y_nin, y_ge2, y_ge2T, y_maxA, y_minA, y_mulT, kx_c, kx_v, kx_add, kx_sub, kx_it, kc_0, kx_i, kx_s, ko_add, ko_sub, y_plA, y_plB, y_plV, y_putA, y_putV, x_wShare, y_ixCD, y_din, y_dnin, wForK, wCompK, x_wLk, x_wLkS, x_wiKeys, y_own0, y_dictAt, x_disp1, keyOk_i, keyOk_s, y_listK, y_valsK, y_itemsK, plain_R, keys_R, vals_R, look_R, has_R, y_neE, y_addK, y_neDict, x_wLC, x_wiRange3, x_wIdx, y_isL, y_index, x_wiKeysB1, endX, x_wRaise, x_wRetX, x_wExpX, x_wSetX, x_wCX, x_wTryR, y_inTp, y_ninTp, y_eqEt, x_wMeth, y_m1, y_obP, y_fch, isFk_self, x_wMake, x_wCallT, y_lifN, y_lifT, y_lifS, y_lifV, y_lifB, y_plF, y_unF, y_putF, y_addF, x_wPopI, y_bs, y_ms, y_tk0, y_tkS, Option.map_some, List.cons_append, List.nil_append, valleys_ms, valleys_sp, law_valleys_ms, law_valleys_sp, is_number_ms, is_number_sp, law_is_number_ms, law_is_number_sp, is_form_ms, is_form_sp, is_valley_ms, is_valley_sp, judge_need_paper_ms, judge_need_paper_sp, law_paper_fault_ms, law_paper_fault_sp, need_paper_ms, need_paper_sp, worth_at_ms, worth_at_sp, low_of_ms, low_of_sp, high_of_ms, high_of_sp, held_slope_ms, held_slope_sp, sum_of_ms, sum_of_sp, held_worth_ms, held_worth_sp, held_ms, held_sp, work_after_ms, work_after_sp, works_of_ms, works_of_sp, least_costs_ms, least_costs_sp, least_cost_ms, least_cost_sp, law_draw_slots_ms, law_draw_slots_sp, law_great_slots_ms, law_great_slots_sp, law_slot_costs_ms, law_slot_costs_sp, law_going_ms, law_going_sp, law_work_told_ms, law_work_told_sp, law_low_ms, law_low_sp, law_high_ms, law_high_sp, ended_ms, ended_sp, best_row_ms, best_row_sp, law_starts_ms, law_starts_sp, law_price_ms, law_price_sp, law_least_cost_ms, law_least_cost_sp, plain_slot_ms, plain_slot_sp, law_all_rows_ms, law_all_rows_sp, law_need_costs_ms, law_need_costs_sp, least_by_layers_ms, least_by_layers_sp, steps_behind_ms, steps_behind_sp, least_by_steps_ms, least_by_steps_sp, law_worths_ms, law_worths_sp, law_some_work_ms, law_some_work_sp, law_added_ms, law_added_sp, law_held_ms, law_held_sp, slot_cost_ms, slot_cost_sp, serves_ms, serves_sp, starts_ms, starts_sp, stops_ms, stops_sp, running_cost_ms, running_cost_sp, row_cost_ms, row_cost_sp, law_some_row_ms, law_some_row_sp, least_numbers_ms, least_numbers_sp, bound_of_ms, bound_of_sp, law_bound_ms, law_bound_sp, best_by_layers_ms, best_by_layers_sp, law_best_row_ms, law_best_row_sp, span_of_ms, span_of_sp, prices_for_ms, prices_for_sp, paper_of_ms, paper_of_sp, is_integer_ms, is_integer_sp, are_integers_ms, are_integers_sp, first_where_ms, first_where_sp, is_least_ms, is_least_sp, judge_paper_ms, judge_paper_sp, law_price_fault_ms, law_price_fault_sp, law_need_fault_ms, law_need_fault_sp, row_layers_ms, row_layers_sp, SightRunner_init_ms, SightRunner_init_sp, SightRunner_look_ms, SightRunner_look_sp, run_sight_ms, run_sight_sp, sight_row_ms, sight_row_sp, law_mixed_ms, law_mixed_sp, law_some_sight_ms, law_some_sight_sp, law_sight_row_ms, law_sight_row_sp, law_shown_row_ms, law_shown_row_sp])
theorem law_run_sight (ds : List D) (R : Nat → D → List D → Prop) (h : F_run_sight.sp ds R) : q_run_sight (entE [.io 1, .val, .val] ds ++ List.replicate 1 none) (endK [.io 1, .val, .val] R) := by
  obtain ⟨many, w, v, needs, rfl, hv, hm, hw, hw2, hl, hR⟩ := h
  have szl : sizeLine = 16777216 := sizeLine_eq
  unfold q_run_sight
  show (wSeq _ _) [some (.own 1, sightD many w [] 0), some (.own 0, v), some (.own 0, .int w), none] _
  have er : (List.range needs.length).map (fun t => PyData.int ((sRun many.toNat (aheadL needs fun _ => w.toNat) needs (t + 1)).2)) = (sightR many.toNat (aheadL needs fun _ => w.toNat) needs).map .int := by
    unfold sightR
    rw [List.map_map]
    rfl
  rcases hv with rfl | rfl <;>
  · walk_at "z14"
    refine ⟨⟨by omega, by omega⟩, by omega, ?_⟩
    rw [Int.toNat_natCast]
    refine comp_laps (fun i acc e => ∃ (st : List Int × Int) (y : Slot), st = sRun many.toNat (aheadL needs fun _ => w.toNat) needs i ∧ e = [some (.own 1, sightD many w st.1 st.2), some (.own 0, _), some (.own 0, .int w), y] ∧ acc = (List.range i).map (fun t => PyData.int ((sRun many.toNat (aheadL needs fun _ => w.toNat) needs (t + 1)).2))) ⟨([], 0), none, rfl, rfl, rfl⟩ ?_ ?_
    · rintro i acc e hi ⟨st, y, hst, rfl, rfl⟩ K hK
      walk_at "z15"
      have ecut : cut (needs.map PyData.int) (some (i : Int)) (some ((i : Int) + w + 1)) = .int (needs.getD i 0) :: ((needs.drop (i + 1)).take w.toNat).map .int := by
        rw [cut_two _ (by omega) (by omega), Int.toNat_natCast, ← List.map_drop, drop_get needs hi, show ((i : Int) + w + 1 - (i : Int)).toNat = w.toNat + 1 by omega, List.map_cons, List.take_succ_cons, List.map_take]
      rw [ecut]
      refine ⟨many, w, st, rfl, needs.getD i 0, (needs.drop (i + 1)).take w.toNat, rfl, hm, hw, ?_, ?_, ?_⟩
      · rw [hst]
        have := past_len (many := many.toNat) (hd := aheadL needs fun _ => w.toNat) (needs := needs) (t := i) (by omega)
        omega
      · have := List.length_take_le' w.toNat (needs.drop (i + 1))
        rw [List.length_drop] at this
        omega
      · rintro s' hs'
        have es : s' = sRun many.toNat (aheadL needs fun _ => w.toNat) needs (i + 1) := by
          rw [hs', hst, sRun_step]
          congr 1
          unfold aheadL
          rw [List.take_of_length_le (List.length_take_le ..)]
        refine hK _ _ ⟨s', _, es, rfl, ?_⟩
        rw [List.range_succ, List.map_append, es]
        rfl
    · rintro acc e ⟨st, y, hst, rfl, rfl⟩
      rw [er]
      walk_at "z14"
      exact hR _
theorem law_sight_row (ds : List D) (R : Nat → D → List D → Prop) (h : F_sight_row.sp ds R) : q_sight_row (entE [.val, .val, .val] ds ++ List.replicate 0 none) (endK [.val, .val, .val] R) := by
  obtain ⟨needs, b, w, rfl, hw, hb, hw2, hl, hR⟩ := h
  have szl : sizeLine = 16777216 := sizeLine_eq
  unfold q_sight_row
  show (wSeq _ _) [some (.own 0, .tuple (needs.map .int)), some (.own 0, .int b), some (.own 0, .int w)] _
  walk_at "z14"
  exact ⟨_, _, rfl, b - 1 - w, rfl, needs, .inl rfl, by omega, hw, hw2, hl, fun _ => hR⟩
theorem law__law_some_sight (ds : List D) (R : Nat → D → List D → Prop) (h : F__law_some_sight.sp ds R) : q__law_some_sight (entE [.io 2, .val] ds ++ List.replicate 1 none) (endK [.io 2, .val] R) := by
  obtain ⟨N, src, most, rfl, hs, hN, m1, m2, hR⟩ := h
  have szl : sizeLine = 16777216 := sizeLine_eq
  unfold q__law_some_sight
  show (wSeq _ _) [some (.own 2, src), some (.own 0, .int most), none] _
  refine seq_mid (fun e => ∃ (src : D) (b : Int), e = [some (.own 2, src), some (.own 0, .int most), some (.own 0, .int b)] ∧ Src (N + 1) src ∧ 1 ≤ b ∧ b ≤ most) (fun V hV => ?_) ?_
  · walk_at "z14"
    exact ⟨_, hs, by omega, log_small (by omega) (by omega), fun r s1 r0 r1 hs1 => hV _ ⟨s1, 1 + r, rfl, hs1, by omega, by omega⟩⟩
  rintro e ⟨src, b, rfl, hs, b0, b1⟩
  walk_at "z14"
  refine ⟨_, hs, by omega, log_small (by omega) (by omega), fun r s1 r0 r1 hs1 => ?_⟩
  refine ⟨by rw [szl]; decide, _, hs1, by omega, by rw [szl]; decide, fun x hx s2 hs2 => ?_⟩
  obtain ⟨v, rfl, v0, v1⟩ : ∃ v : Int, x = .int v ∧ 0 ≤ v ∧ v ≤ b - 1 := by
    simp only [List.mem_cons, List.not_mem_nil, or_false] at hx
    rcases hx with rfl | rfl | rfl <;> exact ⟨_, rfl, by omega, by omega⟩
  exact ⟨by rw [szl]; decide, hR b v s2 b0 b1 v0 v1 (hs2.mono (by omega))⟩
theorem topN_near (needs : List Int) : topN needs = nearF needs := by
  unfold topN nearF
  rfl
theorem top_is {needs : List Int} {m : Int} (h1 : m ∈ 0 :: needs) (h2 : ∀ y, y ∈ 0 :: needs → y ≤ m) : m = topN needs := by
  rw [topN_near]
  exact near_is h1 h2
end Sq
/-! Sq94: the lazy runner, in plain maths -/
namespace Sq
open PySem PySem.Spec PyProof.Rows L2
/-- a tick of the lazy runner: its work, what is on -/
def lazyS (b : Int) (s : Wk × Int) (w : Wk) : Wk × Int := (afterW s.1 w b, max (lowOf (afterW s.1 w b)) (min s.2 (highOf (afterW s.1 w b) b)))
def lazyN (b : Int) (ss : List Wk) : Nat → Wk × Int
  | 0 => (W0, 0)
  | t + 1 => lazyS b (lazyN b ss t) (sAt ss t)
def lazyX (b : Int) (ss : List Wk) : List Int := (List.range ss.length).map fun t => (lazyN b ss (t + 1)).2
/-- an entry of the account -/
def accE (b : Int) (ss : List Wk) (t : Nat) : D := .tuple [.int (lazyN b ss (t + 1)).2, .int (startsF 0 ((lazyX b ss).take (t + 1))), .int (stopsS ((lazyX b ss).take (t + 1))),
  .int (worthS (ss.take (t + 1)) ((lazyX b ss).take (t + 1)) + b * startsF 0 ((lazyX b ss).take (t + 1))), .int (leastW (wkAt b ss (t + 1))), .int (lowOf (wkAt b ss (t + 1)))]
/-! ### far away -/
def farW (f : Int) (w : Wk) : Wk := (w.1 + f, w.2.1 + f, w.2.2.1, w.2.2.2)
/-- w is v, so far away, and so much dearer -/
structure FarOf (f c : Int) (v w : Wk) : Prop where
  lo : w.1 = v.1 + f
  hi : w.2.1 = v.2.1 + f
  fst : w.2.2.1 = v.2.2.1 + c
  sl : w.2.2.2 = v.2.2.2
/-! ### so much dearer -/
def dearW (m : Int) (w : Wk) : Wk := (w.1, w.2.1, m * w.2.2.1, w.2.2.2.map (m * ·))
theorem sum_mul (m : Int) : ∀ l : List Int, (l.map (m * ·)).sum = m * l.sum
  | [] => by simp
  | x :: l => by simp only [List.map_cons, List.sum_cons, sum_mul m l, Int.mul_add]
end Sq
/-! Sq95: the lazy runner's object, its account, the law's own going -/
namespace Sq
open PySem PySem.Spec PyProof.Rows L2
def lazyD (b : Int) (w : Wk) (on : Int) : D := .dict [oMark "LazyRunner", (fkD "b", .int b), (fkD "work", wkD w), (fkD "on", .int on)]
def F_LazyRunner_init : FS := ⟨[.io 1, .val], fun ds R => ∃ (b : Int), ds = [.dict [oMark "LazyRunner"], .int b] ∧ (R 0 .none [lazyD b W0 0])⟩
theorem LazyRunner_init_ms : F_LazyRunner_init.ms = [.io 1, .val] := rfl
theorem LazyRunner_init_sp {zz0 : List (D × D)} {b : Int} {R : Nat → D → List D → Prop} : F_LazyRunner_init.sp [.dict zz0, .int b] R = (zz0 = [oMark "LazyRunner"] ∧ (R 0 .none [lazyD b W0 0])) := by
  apply propext
  constructor
  · rintro ⟨u'b, e, h⟩
    cases e
    exact ⟨rfl, h⟩
  · rintro ⟨rfl, h⟩
    exact ⟨b, rfl, h⟩
def F_LazyRunner_look : FS := ⟨[.io 1, .val], fun ds R => ∃ (b : Int) (s : Wk × Int) (w : Wk) (r : List D), ds = [lazyD b s.1 s.2, .tuple (wkD w :: r)] ∧ (Wok s.1 ∧ Wok w ∧ Small b ∧ ∀ s', s' = lazyS b s w → R 0 (.int s'.2) [lazyD b s'.1 s'.2])⟩
theorem LazyRunner_look_ms : F_LazyRunner_look.ms = [.io 1, .val] := rfl
theorem LazyRunner_look_sp {zz0 : D} {zz1 : List D} {R : Nat → D → List D → Prop} : F_LazyRunner_look.sp [zz0, .tuple zz1] R = (∃ (b : Int) (s : Wk × Int) (w : Wk) (r : List D), zz0 = lazyD b s.1 s.2 ∧ zz1 = (wkD w :: r) ∧ (Wok s.1 ∧ Wok w ∧ Small b ∧ ∀ s', s' = lazyS b s w → R 0 (.int s'.2) [lazyD b s'.1 s'.2])) := by
  apply propext
  constructor
  · rintro ⟨b, s, w, r, e, h⟩
    cases e
    exact ⟨b, s, w, r, rfl, rfl, h⟩
  · rintro ⟨b, s, w, r, rfl, rfl, h⟩
    exact ⟨b, s, w, r, rfl, h⟩
def F_run_lazy : FS := ⟨[.io 1, .val, .val], fun ds R => ∃ (b : Int) (ss : List Wk) (w : Int), ds = [lazyD b W0 0, .tuple (ss.map wkD), .int w] ∧ ((∀ s ∈ ss, Wok s ∧ Cvx s) ∧ 0 ≤ b ∧ Small b ∧ 0 ≤ w ∧ w ≤ 1000000 ∧ ss.length ≤ 100000 ∧ ∀ o, R 0 (.tuple ((lazyX b ss).map .int)) [o])⟩
theorem run_lazy_ms : F_run_lazy.ms = [.io 1, .val, .val] := rfl
theorem run_lazy_sp {zz0 : D} {zz1 : List D} {w : Int} {R : Nat → D → List D → Prop} : F_run_lazy.sp [zz0, .tuple zz1, .int w] R = (∃ (b : Int) (ss : List Wk), zz0 = lazyD b W0 0 ∧ zz1 = (ss.map wkD) ∧ ((∀ s ∈ ss, Wok s ∧ Cvx s) ∧ 0 ≤ b ∧ Small b ∧ 0 ≤ w ∧ w ≤ 1000000 ∧ ss.length ≤ 100000 ∧ ∀ o, R 0 (.tuple ((lazyX b ss).map .int)) [o])) := by
  apply propext
  constructor
  · rintro ⟨b, ss, u'w, e, h⟩
    cases e
    exact ⟨b, ss, rfl, rfl, h⟩
  · rintro ⟨b, ss, rfl, rfl, h⟩
    exact ⟨b, ss, w, rfl, h⟩
def F_lazy_account : FS := ⟨[.val, .val], fun ds R => ∃ (ss : List Wk) (b : Int), ds = [.tuple (ss.map wkD), .int b] ∧ ((∀ s ∈ ss, Wok s ∧ Cvx s ∧ s.2.1 ≤ 10000000 ∧ 0 ≤ s.1) ∧ 0 ≤ b ∧ b ≤ 2 ^ 60 ∧ ss.length ≤ 10000 ∧ R 0 (.tuple ((List.range ss.length).map (accE b ss))) [])⟩
theorem lazy_account_ms : F_lazy_account.ms = [.val, .val] := rfl
theorem lazy_account_sp {zz0 : List D} {b : Int} {R : Nat → D → List D → Prop} : F_lazy_account.sp [.tuple zz0, .int b] R = (∃ (ss : List Wk), zz0 = (ss.map wkD) ∧ ((∀ s ∈ ss, Wok s ∧ Cvx s ∧ s.2.1 ≤ 10000000 ∧ 0 ≤ s.1) ∧ 0 ≤ b ∧ b ≤ 2 ^ 60 ∧ ss.length ≤ 10000 ∧ R 0 (.tuple ((List.range ss.length).map (accE b ss))) [])) := by
  apply propext
  constructor
  · rintro ⟨ss, u'b, e, h⟩
    cases e
    exact ⟨ss, rfl, h⟩
  · rintro ⟨ss, rfl, h⟩
    exact ⟨ss, b, rfl, h⟩
def F_lazy_row : FS := ⟨[.val, .val], fun ds R => ∃ (ss : List Wk) (b : Int), ds = [.tuple (ss.map wkD), .int b] ∧ ((∀ s ∈ ss, Wok s ∧ Cvx s ∧ s.2.1 ≤ 10000000 ∧ 0 ≤ s.1) ∧ 0 ≤ b ∧ b ≤ 2 ^ 60 ∧ ss.length ≤ 10000 ∧ R 0 (.tuple ((lazyX b ss).map .int)) [])⟩
theorem lazy_row_ms : F_lazy_row.ms = [.val, .val] := rfl
theorem lazy_row_sp {zz0 : List D} {b : Int} {R : Nat → D → List D → Prop} : F_lazy_row.sp [.tuple zz0, .int b] R = (∃ (ss : List Wk), zz0 = (ss.map wkD) ∧ ((∀ s ∈ ss, Wok s ∧ Cvx s ∧ s.2.1 ≤ 10000000 ∧ 0 ≤ s.1) ∧ 0 ≤ b ∧ b ≤ 2 ^ 60 ∧ ss.length ≤ 10000 ∧ R 0 (.tuple ((lazyX b ss).map .int)) [])) := by
  apply propext
  constructor
  · rintro ⟨ss, u'b, e, h⟩
    cases e
    exact ⟨ss, rfl, h⟩
  · rintro ⟨ss, rfl, h⟩
    exact ⟨ss, b, rfl, h⟩
def F__law_bounds : FS := ⟨[.val, .val], fun ds R => ∃ (w : Wk) (b : Int), ds = [dW w, .int b] ∧ (Wok w ∧ Cvx w ∧ R 0 (.tuple [.int (lowOf w), .int (highOf w b)]) [])⟩
theorem law_bounds_ms : F__law_bounds.ms = [.val, .val] := rfl
theorem law_bounds_sp {zz0 : D} {b : Int} {R : Nat → D → List D → Prop} : F__law_bounds.sp [zz0, .int b] R = (∃ (w : Wk), zz0 = dW w ∧ (Wok w ∧ Cvx w ∧ R 0 (.tuple [.int (lowOf w), .int (highOf w b)]) [])) := by
  apply propext
  constructor
  · rintro ⟨w, u'b, e, h⟩
    cases e
    exact ⟨w, rfl, h⟩
  · rintro ⟨w, rfl, h⟩
    exact ⟨w, b, rfl, h⟩
def F__law_lazy : FS := ⟨[.val, .val], fun ds R => ∃ (ss : List Wk) (b : Int), ds = [.tuple (ss.map wkD), .int b] ∧ ((∀ s ∈ ss, Wok s ∧ Cvx s ∧ s.2.1 - s.1 ≤ 1000 ∧ 0 ≤ s.1 ∧ s.2.1 ≤ 10000000) ∧ 0 ≤ b ∧ b ≤ 2 ^ 60 ∧ ss.length ≤ 1000 ∧ R 0 (.tuple ((List.range ss.length).map (accE b ss))) [])⟩
theorem law_lazy_ms : F__law_lazy.ms = [.val, .val] := rfl
theorem law_lazy_sp {zz0 : List D} {b : Int} {R : Nat → D → List D → Prop} : F__law_lazy.sp [.tuple zz0, .int b] R = (∃ (ss : List Wk), zz0 = (ss.map wkD) ∧ ((∀ s ∈ ss, Wok s ∧ Cvx s ∧ s.2.1 - s.1 ≤ 1000 ∧ 0 ≤ s.1 ∧ s.2.1 ≤ 10000000) ∧ 0 ≤ b ∧ b ≤ 2 ^ 60 ∧ ss.length ≤ 1000 ∧ R 0 (.tuple ((List.range ss.length).map (accE b ss))) [])) := by
  apply propext
  constructor
  · rintro ⟨ss, u'b, e, h⟩
    cases e
    exact ⟨ss, rfl, h⟩
  · rintro ⟨ss, rfl, h⟩
    exact ⟨ss, b, rfl, h⟩
def F__law_far : FS := ⟨[.val, .val], fun ds R => ∃ (ss : List Wk) (f : Int), ds = [.tuple (ss.map wkD), .int f] ∧ (R 0 (.tuple ((ss.map (farW f)).map wkD)) [])⟩
theorem law_far_ms : F__law_far.ms = [.val, .val] := rfl
theorem law_far_sp {zz0 : List D} {f : Int} {R : Nat → D → List D → Prop} : F__law_far.sp [.tuple zz0, .int f] R = (∃ (ss : List Wk), zz0 = (ss.map wkD) ∧ (R 0 (.tuple ((ss.map (farW f)).map wkD)) [])) := by
  apply propext
  constructor
  · rintro ⟨ss, u'f, e, h⟩
    cases e
    exact ⟨ss, rfl, h⟩
  · rintro ⟨ss, rfl, h⟩
    exact ⟨ss, f, rfl, h⟩
def F__law_dear : FS := ⟨[.val, .val], fun ds R => ∃ (ss : List Wk) (m : Int), ds = [.tuple (ss.map wkD), .int m] ∧ ((∀ s ∈ ss, CMulB m s.2.2.1 ∧ ∀ x ∈ s.2.2.2, CMulB m x) ∧ R 0 (.tuple ((ss.map (dearW m)).map wkD)) [])⟩
theorem law_dear_ms : F__law_dear.ms = [.val, .val] := rfl
theorem law_dear_sp {zz0 : List D} {m : Int} {R : Nat → D → List D → Prop} : F__law_dear.sp [.tuple zz0, .int m] R = (∃ (ss : List Wk), zz0 = (ss.map wkD) ∧ ((∀ s ∈ ss, CMulB m s.2.2.1 ∧ ∀ x ∈ s.2.2.2, CMulB m x) ∧ R 0 (.tuple ((ss.map (dearW m)).map wkD)) [])) := by
  apply propext
  constructor
  · rintro ⟨ss, u'm, e, h⟩
    cases e
    exact ⟨ss, rfl, h⟩
  · rintro ⟨ss, rfl, h⟩
    exact ⟨ss, m, rfl, h⟩
/-! LazyRunner_init: slots 0 self 1 b; cells []; calls [] -/
/-! LazyRunner_look: slots 0 self 1 seen; cells []; calls ['work_after', 'high_of', 'low_of'] -/
/-! run: slots 0 runner 1 row 2 w 3 t; cells ['row', 'runner', 'w']; calls ['LazyRunner_look'] -/
/-! lazy_account: slots 0 slots 1 b 2 runner 3 found 4 row 5 paid 6 slot 7 low 8 begun; cells []; calls ['LazyRunner_init', 'LazyRunner_look', 'slot_cost', 'low_of', 'starts', 'worth_at', 'stops'] -/
/-! lazy_row: slots 0 slots 1 b 2 entry; cells []; calls ['lazy_account'] -/
/-! _law_bounds: slots 0 here 1 b 2 best 3 low 4 x; cells ['b', 'best', 'here']; calls [] -/
/-! _law_lazy: slots 0 slots 1 b 2 costs 3 found 4 x 5 ticks 6 starts_v 7 stops_v 8 t 9 here 10 low 11 high 12 late; cells []; calls ['_law_slot_costs', '_law_going', '_law_bounds'] -/
/-! _law_far: slots 0 slots 1 far 2 need 3 high 4 first 5 slopes; cells ['far']; calls [] -/
/-! _law_dear: slots 0 slots 1 many 2 need 3 high 4 first 5 slopes 6 slope; cells ['many']; calls [] -/
end Sq
/-! Sq96: what the lazy runner pays -/
namespace Sq
open PySem PySem.Spec PyProof.Rows L2
/-- what holds of the lazy runner after t ticks -/
structure LazyAt (b : Int) (w : Wk) (x S P C : Int) : Prop where
  low : lowOf w ≤ x
  high : x ≤ highOf w b
  go : ∀ y, 0 ≤ y → b * S + b * max 0 (y - x) ≤ heldWorth w b y
  paid : C ≤ worthV w x + b * P
  most : worthV w x ≤ C + b * S
  bal : S - P = x
  x0 : 0 ≤ x
theorem mul_mono {b x y : Int} (b0 : 0 ≤ b) (h : x ≤ y) : b * x ≤ b * y := Int.mul_le_mul_of_nonneg_left h b0
/-! ### the account of slots far up, and of dear ones -/
end Sq
/-! zip of two of one length, of these kinds: TL (printed by genzip3.py) -/
namespace SqZ
open PySem
open PySem.Sem (wp)
section
variable {prog : Program} {w : World} {A : Around} {E : Value → Shared → Prop} {s : Shared}
structure ApTL (z TI TO i1 i2 l1 l2 : Addr) : Prop where
  z_TO : z ≠ TO
  z_i1 : z ≠ i1
  z_i2 : z ≠ i2
  TI_z : TI ≠ z
  TI_TO : TI ≠ TO
  TI_i1 : TI ≠ i1
  TI_i2 : TI ≠ i2
  TO_z : TO ≠ z
  TO_i1 : TO ≠ i1
  TO_i2 : TO ≠ i2
  i1_z : i1 ≠ z
  i1_TO : i1 ≠ TO
  i1_i2 : i1 ≠ i2
  i2_z : i2 ≠ z
  i2_TO : i2 ≠ TO
  i2_i1 : i2 ≠ i1
  l1_z : l1 ≠ z
  l1_TO : l1 ≠ TO
  l1_i1 : l1 ≠ i1
  l1_i2 : l1 ≠ i2
  l2_z : l2 ≠ z
  l2_TO : l2 ≠ TO
  l2_i1 : l2 ≠ i1
  l2_i2 : l2 ≠ i2
set_option maxHeartbeats 4000000 in
end
end SqZ
namespace Sq
open PySem PySem.Spec PyProof.Rows L2 SqZ
end Sq
/-! Sq98: drawn slots with costs never below 0; a drawn row from LOW to HIGH -/
namespace Sq
open PySem PySem.Spec PyProof.Rows L2
def Sn (top m c : Int) (s : Wk) : Prop := Sl top m c s ∧ ∀ x, s.1 ≤ x → x ≤ s.2.1 → 0 ≤ worthV s x
def rmD (r : Int × Int) : D := .tuple [.int r.1, .int r.2]
/-- the starts of a row, tick by tick -/
def begI (ys : List Int) : List Int := (List.range ys.length).map fun t => startsF 0 (ys.take (t + 1))
def F__law_draw_slots0 : FS := ⟨[.io 2, .val, .val], fun ds R => ∃ (N : Nat) (src : D) (ticks : Int) (most : Int), ds = [src, .int ticks, .int most] ∧ (Src N src ∧ N ≤ 2 ^ 50 ∧ 0 ≤ ticks ∧ ticks ≤ 100 ∧ 0 ≤ most ∧ most ≤ 40 ∧ ∀ (ss : List Wk) (src' : D), ss.length = ticks.toNat → (∀ s ∈ ss, Sn most most 8 s) → Src (N + 10000) src' → R 0 (.tuple (ss.map wkD)) [src'])⟩
theorem law_draw_slots0_ms : F__law_draw_slots0.ms = [.io 2, .val, .val] := rfl
theorem law_draw_slots0_sp {src : D} {ticks : Int} {most : Int} {R : Nat → D → List D → Prop} : F__law_draw_slots0.sp [src, .int ticks, .int most] R = (∃ (N : Nat), (Src N src ∧ N ≤ 2 ^ 50 ∧ 0 ≤ ticks ∧ ticks ≤ 100 ∧ 0 ≤ most ∧ most ≤ 40 ∧ ∀ (ss : List Wk) (src' : D), ss.length = ticks.toNat → (∀ s ∈ ss, Sn most most 8 s) → Src (N + 10000) src' → R 0 (.tuple (ss.map wkD)) [src'])) := by
  apply propext
  constructor
  · rintro ⟨N, u'src, u'ticks, u'most, e, h⟩
    cases e
    exact ⟨N, h⟩
  · rintro ⟨N, h⟩
    exact ⟨N, src, ticks, most, rfl, h⟩
def F__law_between : FS := ⟨[.io 2, .val], fun ds R => ∃ (N : Nat) (src : D) (rs : List (Int × Int)), ds = [src, .list (rs.map rmD)] ∧ (Src N src ∧ N ≤ 2 ^ 50 ∧ rs.length ≤ 1000 ∧ (∀ r ∈ rs, 0 ≤ r.1 ∧ r.1 ≤ r.2 ∧ r.2 ≤ 1000000) ∧ ∀ (ys : List Int) (src' : D), ys.length = rs.length → (∀ t, t < rs.length → (rs.getD t (0, 0)).1 ≤ ys.getD t 0 ∧ ys.getD t 0 ≤ (rs.getD t (0, 0)).2) → Src (N + 2 * rs.length) src' → R 0 (.list ((begI ys).map .int)) [src'])⟩
theorem law_between_ms : F__law_between.ms = [.io 2, .val] := rfl
theorem law_between_sp {src : D} {zz1 : List D} {R : Nat → D → List D → Prop} : F__law_between.sp [src, .list zz1] R = (∃ (N : Nat) (rs : List (Int × Int)), zz1 = (rs.map rmD) ∧ (Src N src ∧ N ≤ 2 ^ 50 ∧ rs.length ≤ 1000 ∧ (∀ r ∈ rs, 0 ≤ r.1 ∧ r.1 ≤ r.2 ∧ r.2 ≤ 1000000) ∧ ∀ (ys : List Int) (src' : D), ys.length = rs.length → (∀ t, t < rs.length → (rs.getD t (0, 0)).1 ≤ ys.getD t 0 ∧ ys.getD t 0 ≤ (rs.getD t (0, 0)).2) → Src (N + 2 * rs.length) src' → R 0 (.list ((begI ys).map .int)) [src'])) := by
  apply propext
  constructor
  · rintro ⟨N, u'src, rs, e, h⟩
    cases e
    exact ⟨N, rs, rfl, h⟩
  · rintro ⟨N, rs, rfl, h⟩
    exact ⟨N, src, rs, rfl, h⟩
/-! _law_draw_slots0 -/
/-! _law_between -/
end Sq
/-! Sq99: tails; what the sight runner's run costs; rows and slots by hand -/
namespace Sq
open PySem PySem.Spec PyProof.Rows L2
/-- the greatest from a tick on -/
def lowT (needs : List Int) (i : Nat) : Int := (needs.drop i).foldr max 0
def tailE (needs : List Int) (k : Nat) : Option (Int × Int × Int × Int) :=
  if lowT needs (k + 1) < needs.getD k 0 then some (((k : Int) + 1), (needs.length : Int) - ((k : Int) + 1), lowT needs (k + 1), needs.getD k 0) else none
def tailsF (needs : List Int) : List (Int × Int × Int × Int) := ((List.range (needs.length - 1)).filterMap fun j => tailE needs (needs.length - 2 - j)).reverse
def gapC (b w g : Int) : Int := if g < b then g else 2 * b - 1 - w
def sightC (needs : List Int) (b w : Int) : Int := needs.sum + b * topN needs + ((vals needs).map fun v => (v.2.2.2 - v.2.2.1) * gapC b w v.2.1).sum + ((tailsF needs).map fun v => (v.2.2.2 - v.2.2.1) * min v.2.1 (b - 1 - w)).sum
theorem lowT_step {needs : List Int} {i : Nat} (h : i < needs.length) : lowT needs i = max (lowT needs (i + 1)) (needs.getD i 0) := by
  unfold lowT
  rw [List.drop_eq_getElem_cons h, List.foldr_cons, List.getD_eq_getElem?_getD, List.getElem?_eq_getElem h, Int.max_comm]
  rfl
theorem tailsF_bd {needs : List Int} {c : Int} (c0 : 0 ≤ c) (h : ∀ x ∈ needs, 0 ≤ x ∧ x ≤ c) : ∀ v ∈ tailsF needs, 0 ≤ v.2.1 ∧ v.2.1 ≤ needs.length ∧ 0 ≤ v.2.2.1 ∧ v.2.2.1 < v.2.2.2 ∧ v.2.2.2 ≤ c := fun v hv => by
  unfold tailsF at hv
  obtain ⟨j, hj, e⟩ := List.mem_filterMap.mp (List.mem_reverse.mp hv)
  have hj := List.mem_range.mp hj
  unfold tailE at e
  split at e
  · rename_i hl
    cases e
    have hk : needs.length - 2 - j < needs.length := by omega
    have m : needs.getD (needs.length - 2 - j) 0 ∈ needs := by rw [List.getD_eq_getElem?_getD, List.getElem?_eq_getElem hk]; exact List.getElem_mem hk
    have b1 := h _ m
    have l0 : 0 ≤ lowT needs (needs.length - 2 - j + 1) := by
      unfold lowT
      generalize List.drop _ needs = l
      cases l with
      | nil => exact Int.le_refl 0
      | cons a r =>
        have : ∀ l : List Int, 0 ≤ l.foldr max 0 := fun l => by
          induction l with
          | nil => exact Int.le_refl 0
          | cons a r ih => rw [List.foldr_cons]; omega
        exact this _
    exact ⟨by simp only; omega, by simp only; omega, l0, hl, b1.2⟩
  · cases e
def F_tails : FS := ⟨[.val], fun ds R => ∃ (needs : List Int), ds = [.tuple (needs.map .int)] ∧ (needs.length ≤ 10000 ∧ R 1 (.list ((tailsF needs).map valD)) [])⟩
theorem tails_ms : F_tails.ms = [.val] := rfl
theorem tails_sp {zz0 : List D} {R : Nat → D → List D → Prop} : F_tails.sp [.tuple zz0] R = (∃ (needs : List Int), zz0 = (needs.map .int) ∧ (needs.length ≤ 10000 ∧ R 1 (.list ((tailsF needs).map valD)) [])) := by
  apply propext
  constructor
  · rintro ⟨needs, e, h⟩
    cases e
    exact ⟨needs, rfl, h⟩
  · rintro ⟨needs, rfl, h⟩
    exact ⟨needs, rfl, h⟩
def F_sight_cost : FS := ⟨[.val, .val, .val], fun ds R => ∃ (needs : List Int) (b : Int) (w : Int), ds = [.tuple (needs.map .int), .int b, .int w] ∧ (needs.length ≤ 10000 ∧ (∀ x ∈ needs, 0 ≤ x ∧ x ≤ 2 ^ 40) ∧ 0 ≤ b ∧ b ≤ 2 ^ 40 ∧ 0 ≤ w ∧ w ≤ 2 ^ 40 ∧ R 0 (.int (sightC needs b w)) [])⟩
theorem sight_cost_ms : F_sight_cost.ms = [.val, .val, .val] := rfl
theorem sight_cost_sp {zz0 : List D} {b : Int} {w : Int} {R : Nat → D → List D → Prop} : F_sight_cost.sp [.tuple zz0, .int b, .int w] R = (∃ (needs : List Int), zz0 = (needs.map .int) ∧ (needs.length ≤ 10000 ∧ (∀ x ∈ needs, 0 ≤ x ∧ x ≤ 2 ^ 40) ∧ 0 ≤ b ∧ b ≤ 2 ^ 40 ∧ 0 ≤ w ∧ w ≤ 2 ^ 40 ∧ R 0 (.int (sightC needs b w)) [])) := by
  apply propext
  constructor
  · rintro ⟨needs, u'b, u'w, e, h⟩
    cases e
    exact ⟨needs, rfl, h⟩
  · rintro ⟨needs, rfl, h⟩
    exact ⟨needs, b, w, rfl, h⟩
def F_sight_room : FS := ⟨[.val, .val, .val], fun ds R => ∃ (needs : List Int) (b : Int) (w : Int), ds = [.tuple (needs.map .int), .int b, .int w] ∧ (needs.length ≤ 10000 ∧ (∀ x ∈ needs, 0 ≤ x ∧ x ≤ 2 ^ 40) ∧ 0 ≤ b ∧ b ≤ 2 ^ 40 ∧ 0 ≤ w ∧ w ≤ 2 ^ 40 ∧ CMulB (2 * b - w) (layersCost needs b) ∧ CMulB (b + 1) (sightC needs b w) ∧ R 0 (.int ((2 * b - w) * layersCost needs b - (b + 1) * sightC needs b w)) [])⟩
theorem sight_room_ms : F_sight_room.ms = [.val, .val, .val] := rfl
theorem sight_room_sp {zz0 : List D} {b : Int} {w : Int} {R : Nat → D → List D → Prop} : F_sight_room.sp [.tuple zz0, .int b, .int w] R = (∃ (needs : List Int), zz0 = (needs.map .int) ∧ (needs.length ≤ 10000 ∧ (∀ x ∈ needs, 0 ≤ x ∧ x ≤ 2 ^ 40) ∧ 0 ≤ b ∧ b ≤ 2 ^ 40 ∧ 0 ≤ w ∧ w ≤ 2 ^ 40 ∧ CMulB (2 * b - w) (layersCost needs b) ∧ CMulB (b + 1) (sightC needs b w) ∧ R 0 (.int ((2 * b - w) * layersCost needs b - (b + 1) * sightC needs b w)) [])) := by
  apply propext
  constructor
  · rintro ⟨needs, u'b, u'w, e, h⟩
    cases e
    exact ⟨needs, rfl, h⟩
  · rintro ⟨needs, rfl, h⟩
    exact ⟨needs, b, w, rfl, h⟩
/-! tails -/
def q_tails_1 : WS := (wSeq (wAsg (wOp oMax2 (wCons (wSl 2) (wCons (wEx (wOp oIx (wCons (wSl 0) (wCons (wSl 3) wNil)))) wNil))) (wNmG 2)) (wSeq (wIf (wT (wOp oGt (wCons (wEx (wOp oIx (wCons (wSl 0) (wCons (wEx (wOp oSub (wCons (wSl 3) (wCons (wEx (wC (.int 1))) wNil)))) wNil)))) (wCons (wSl 2) wNil)))) (wSeq (wExpr (wApp 1 (wTup (wCons (wEx (wVar 3)) (wCons (wEx (wOp oSub (wCons (wEx (wOp oLen (wCons (wSl 0) wNil))) (wCons (wSl 3) wNil)))) (wCons (wEx (wVar 2)) (wCons (wEx (wOp oIx (wCons (wSl 0) (wCons (wEx (wOp oSub (wCons (wSl 3) (wCons (wEx (wC (.int 1))) wNil)))) wNil)))) wNil))))))) wNext) wNext) wNext))
def q_tails : WS := (wSeq (wPar [1, 2] (wCons (wEx (wLst 0 wNil)) (wCons (wEx (wC (.int 0))) wNil))) (wSeq (wFor (wiRange3 (wOp oSub (wCons (wEx (wOp oLen (wCons (wSl 0) wNil))) (wCons (wEx (wC (.int 1))) wNil))) (wC (.int 0)) (wOp oNeg (wCons (wEx (wC (.int 1))) wNil))) (wNmG 3) q_tails_1) (wSeq (wRet (wOp oRev (wCons (wSl 1) wNil))) wNext)))
/-! sight_cost -/
def q_sight_cost_1 : WS := (wSeq (wAsg (wOp oAdd (wCons (wSl 3) (wCons (wEx (wOp oMul (wCons (wEx (wOp oSub (wCons (wSl 7) (wCons (wSl 6) wNil)))) (wCons (wEx (wIte (wT (wOp oLt (wCons (wSl 5) (wCons (wSl 1) wNil)))) (wVar 5) (wOp oSub (wCons (wEx (wOp oSub (wCons (wEx (wOp oMul (wCons (wEx (wC (.int 2))) (wCons (wSl 1) wNil)))) (wCons (wEx (wC (.int 1))) wNil)))) (wCons (wSl 2) wNil))))) wNil)))) wNil))) (wNmG 3)) wNext)
def q_sight_cost_2 : WS := (wSeq (wAsg (wOp oAdd (wCons (wSl 3) (wCons (wEx (wOp oMul (wCons (wEx (wOp oSub (wCons (wSl 7) (wCons (wSl 6) wNil)))) (wCons (wEx (wOp oMin2 (wCons (wSl 5) (wCons (wEx (wOp oSub (wCons (wEx (wOp oSub (wCons (wSl 1) (wCons (wEx (wC (.int 1))) wNil)))) (wCons (wSl 2) wNil)))) wNil)))) wNil)))) wNil))) (wNmG 3)) wNext)
def q_sight_cost : WS := (wSeq (wAsg (wOp oAdd (wCons (wEx (wOp oSum (wCons (wSl 0) wNil))) (wCons (wEx (wOp oMul (wCons (wSl 1) (wCons (wEx (wOp oMax1 (wCons (wEx (wLst 0 (wCons (wEx (wC (.int 0))) (wStar (wSl 0) wNil)))) wNil))) wNil)))) wNil))) (wNmG 3)) (wSeq (wFor (wiSeq (wEx (wCall F_valleys (wCons (wSl 0) wNil)))) (wTp 4 (wGc (wNmG 4) (wGc (wNmG 5) (wGc (wNmG 6) (wGc (wNmG 7) wGn))))) q_sight_cost_1) (wSeq (wFor (wiSeq (wEx (wCall F_tails (wCons (wSl 0) wNil)))) (wTp 4 (wGc (wNmG 4) (wGc (wNmG 5) (wGc (wNmG 6) (wGc (wNmG 7) wGn))))) q_sight_cost_2) (wSeq (wRet (wVar 3)) wNext))))
/-! sight_room -/
local macro_rules | `(tactic| walk_at "z16") => `(tactic| simp only [x_wC, x_wEx, x_wNil, x_wCons, x_wOp, x_wT, x_wAndT, x_wOrT, x_wNotT, x_wIte, x_wAndV, x_wOrV, x_wNotV, x_wChain, x_wTru, x_wFz, x_wTup, x_wLst, x_wStar, x_wP0, x_wP1, x_wCut, x_wNext, x_wBrk, x_wCnt, x_wNever, x_wSeq, x_wNm, y_gn, y_gc, y_tp, x_wNmG, x_wAsg, x_wExpr, x_wRet, x_wRetN, x_wIf, x_wFor, x_wComp, x_wYes, x_wiSeq, x_wiEnum, x_wiRange1, x_wiRange2, y_par, y_al0, y_alC, y_app, x_wDisp, x_wDNew, x_wDNewT, x_wCall, x_wiZip, x_tmp, x_fs0, x_fs1, y_add, y_addS, y_addL, y_addT, y_sub, y_mul, y_rep, y_div, y_mod, y_pow, y_eq, y_eqS, y_eqL, y_eqT, y_ne, y_neS, y_neL, y_neT, y_lt, y_le, y_gt, y_ge, y_isN, y_notN, y_nNone, y_nInt, y_nStr, y_nTup, y_nLst, y_lenL, y_lenT, y_lenS, y_abs, y_max, y_min, y_int, y_intB, y_tupL, y_tupT, y_lstL, y_lstT, y_repr, y_neg, y_ixL, y_ixT, y_cutL, y_cutT, y_rev, y_starT, y_starL, y_starKT, y_starKL, y_itT, y_itKT, y_plain, y_itS, y_itKS, y_var, y_own, y_mv, y_seen, y_seenL, y_fetS, y_sl, y_tm0, y_tmS, y_tmI, y_tmT, y_tmX, y_tmN, y_tn0, y_tnC, y_mapS, y_io0, y_ioV, y_ioB, io_ex, y_nx, y_rt, y_fit0, y_fitT, y_fitN, y_fitX, y_fitS, y_setE0, y_setE1, y_pl, y_un, y_put, y_pop1, List.getElem?_cons_zero, List.getElem?_cons_succ, List.set_cons_zero, List.set_cons_succ, Option.some.injEq, PyData.int.injEq, PyData.bool.injEq, PyData.tuple.injEq, PyData.list.injEq, Prod.mk.injEq, Md.own.injEq, exists_eq_left', exists_eq_left, exists_eq', exists_eq, true_and, and_true, and_self, List.length_cons, List.length_nil, wipeE, restE, decide_eq_true_eq, Bool.not_eq_true', decide_eq_false_iff_not, Nat.reduceAdd, Nat.reduceLT, Nat.reduceLeDiff, Nat.zero_le, Nat.le_refl, waOf, List.map_cons, List.map_nil, Nat.zero_add, List.nil_append, Nat.lt_add_one, y_lfI, y_lfS, y_lfT, y_lfN, y_lfB, or_true, Nat.reduceSub, Nat.add_one_sub_one, List.map_append, List.length_map, exists_and_left, ↓reduceIte, Nat.lt_irrefl, y_po0, y_poS, y_poN, y_ou0, y_ouI, y_ouV, y_ouB, Bool.true_eq_false, Bool.false_eq_true, reduceCtorEq, a_nil, a_cons, a_vt, a_vs, a_is, a_bs, a_bt, a_v0, a_vl, a_vi, a_i0, a_b0, a_bl, y_bind, ok_0, ok_1, ok_2, ok_3, ok_4, ok_5, ok_6, ok_i1, ok_i2, ok_i3, ok_i4, ok_i5, ok_i6, Option.getD_some, Option.getD_none, y_appB, at_0, at_1, at_2, at_3, y_chL, y_chT, not_true_eq_false, not_false_eq_true, true_or, y_pop0, F__law_source, F__law_pick, F__law_of, F__law_draw_needs, F__law_gaps, source_ms, source_sp, pick_ms, pick_sp, of_ms, of_sp, draw_ms, draw_sp, lgaps_ms, lgaps_sp, y_ext, y_all, y_any, closed_ms, closed_sp, lsf_ms, lsf_sp, lc_ms, lc_sp, y_sumL, y_sumT, x_wIsi, x_wGlo, pl_N, pl_B, pl_I, pl_S, pl_L, pl_T, pl_D0, i_Nint, i_Nbool, i_Ntuple, i_Nstr, i_Nlist, i_Ndict, i_Bint, i_Bbool, i_Btuple, i_Bstr, i_Blist, i_Bdict, i_Iint, i_Ibool, i_Ituple, i_Istr, i_Ilist, i_Idict, i_Sint, i_Sbool, i_Stuple, i_Sstr, i_Slist, i_Sdict, i_Lint, i_Lbool, i_Ltuple, i_Lstr, i_Llist, i_Ldict, i_Tint, i_Tbool, i_Ttuple, i_Tstr, i_Tlist, i_Tdict, i_Dint, i_Dbool, i_Dtuple, i_Dstr, i_Dlist, i_Ddict, y_in, y_nin, y_ge2, y_ge2T, y_maxA, y_minA, y_mulT, kx_c, kx_v, kx_add, kx_sub, kx_it, kc_0, kx_i, kx_s, ko_add, ko_sub, y_plA, y_plB, y_plV, y_putA, y_putV, x_wShare, y_ixCD, y_din, y_dnin, wForK, wCompK, x_wLk, x_wLkS, x_wiKeys, y_own0, y_dictAt, x_disp1, keyOk_i, keyOk_s, y_listK, y_valsK, y_itemsK, plain_R, keys_R, vals_R, look_R, has_R, y_neE, y_addK, y_neDict, x_wLC, x_wiRange3, x_wIdx, y_isL, y_index, x_wiKeysB1, endX, x_wRaise, x_wRetX, x_wExpX, x_wSetX, x_wCX, x_wTryR, y_inTp, y_ninTp, y_eqEt, x_wMeth, y_m1, y_obP, y_fch, isFk_self, x_wMake, x_wCallT, y_lifN, y_lifT, y_lifS, y_lifV, y_lifB, y_plF, y_unF, y_putF, y_addF, x_wPopI, y_bs, y_ms, y_tk0, y_tkS, Option.map_some, List.cons_append, valleys_ms, valleys_sp, law_valleys_ms, law_valleys_sp, is_number_ms, is_number_sp, law_is_number_ms, law_is_number_sp, is_form_ms, is_form_sp, is_valley_ms, is_valley_sp, judge_need_paper_ms, judge_need_paper_sp, law_paper_fault_ms, law_paper_fault_sp, need_paper_ms, need_paper_sp, worth_at_ms, worth_at_sp, low_of_ms, low_of_sp, high_of_ms, high_of_sp, held_slope_ms, held_slope_sp, sum_of_ms, sum_of_sp, held_worth_ms, held_worth_sp, held_ms, held_sp, work_after_ms, work_after_sp, works_of_ms, works_of_sp, least_costs_ms, least_costs_sp, least_cost_ms, least_cost_sp, law_draw_slots_ms, law_draw_slots_sp, law_great_slots_ms, law_great_slots_sp, law_slot_costs_ms, law_slot_costs_sp, law_going_ms, law_going_sp, law_work_told_ms, law_work_told_sp, law_low_ms, law_low_sp, law_high_ms, law_high_sp, ended_ms, ended_sp, best_row_ms, best_row_sp, law_starts_ms, law_starts_sp, law_price_ms, law_price_sp, law_least_cost_ms, law_least_cost_sp, plain_slot_ms, plain_slot_sp, law_all_rows_ms, law_all_rows_sp, law_need_costs_ms, law_need_costs_sp, least_by_layers_ms, least_by_layers_sp, steps_behind_ms, steps_behind_sp, least_by_steps_ms, least_by_steps_sp, law_worths_ms, law_worths_sp, law_some_work_ms, law_some_work_sp, law_added_ms, law_added_sp, law_held_ms, law_held_sp, slot_cost_ms, slot_cost_sp, serves_ms, serves_sp, starts_ms, starts_sp, stops_ms, stops_sp, running_cost_ms, running_cost_sp, row_cost_ms, row_cost_sp, law_some_row_ms, law_some_row_sp, least_numbers_ms, least_numbers_sp, bound_of_ms, bound_of_sp, law_bound_ms, law_bound_sp, best_by_layers_ms, best_by_layers_sp, law_best_row_ms, law_best_row_sp, span_of_ms, span_of_sp, prices_for_ms, prices_for_sp, paper_of_ms, paper_of_sp, is_integer_ms, is_integer_sp, are_integers_ms, are_integers_sp, first_where_ms, first_where_sp, is_least_ms, is_least_sp, judge_paper_ms, judge_paper_sp, law_price_fault_ms, law_price_fault_sp, law_need_fault_ms, law_need_fault_sp, row_layers_ms, row_layers_sp, SightRunner_init_ms, SightRunner_init_sp, SightRunner_look_ms, SightRunner_look_sp, run_sight_ms, run_sight_sp, sight_row_ms, sight_row_sp, law_mixed_ms, law_mixed_sp, law_some_sight_ms, law_some_sight_sp, law_sight_row_ms, law_sight_row_sp, law_shown_row_ms, law_shown_row_sp, LazyRunner_init_ms, LazyRunner_init_sp, LazyRunner_look_ms, LazyRunner_look_sp, run_lazy_ms, run_lazy_sp, lazy_account_ms, lazy_account_sp, lazy_row_ms, lazy_row_sp, law_bounds_ms, law_bounds_sp, law_lazy_ms, law_lazy_sp, law_far_ms, law_far_sp, law_dear_ms, law_dear_sp, law_draw_slots0_ms, law_draw_slots0_sp, law_between_ms, law_between_sp, tails_ms, tails_sp, sight_cost_ms, sight_cost_sp, sight_room_ms, sight_room_sp])
theorem law_tails (ds : List D) (R : Nat → D → List D → Prop) (h : F_tails.sp ds R) : q_tails (entE [.val] ds ++ List.replicate 3 none) (endK [.val] R) := by
  obtain ⟨needs, rfl, hl, hR⟩ := h
  have szl : sizeLine = 16777216 := sizeLine_eq
  unfold q_tails
  show (wSeq _ _) [some (.own 0, .tuple (needs.map .int)), none, none, none] _
  refine seq_mid (fun e => ∃ x3, e = [some (.own 0, .tuple (needs.map .int)), some (.own 1, .list []), some (.own 0, .int 0), x3]) (fun V hV => ?_) ?_
  · walk_at "z16"
    exact hV _ ⟨_, rfl⟩
  rintro e ⟨x3, rfl⟩
  refine seq_mid (fun e => ∃ x2 x3, e = [some (.own 0, .tuple (needs.map .int)), some (.own 1, .list (((List.range (needs.length - 1)).filterMap fun j => tailE needs (needs.length - 2 - j)).map valD)), x2, x3]) (fun V hV => ?_) ?_
  · walk_at "z16"
    unfold inB
    refine ⟨⟨by omega, by omega⟩, by omega, ?_⟩
    unfold rangeD
    rw [show ((needs.length : Int) - 1 - 0).toNat = needs.length - 1 by omega]
    refine for_map (p := fun i : Nat => PyData.int ((needs.length : Int) - 1 - (i : Nat))) (fun done e => ∃ x3, e = [some (.own 0, .tuple (needs.map .int)), some (.own 1, .list (((List.range done.length).filterMap fun j => tailE needs (needs.length - 2 - j)).map valD)), some (.own 0, .int (lowT needs (needs.length - done.length))), x3]) ⟨x3, by simp [lowT]⟩ ?_ ?_
    · rintro dn i rest e hd ⟨x3, rfl⟩ Z hZ
      have hi : i = dn.length := by
        have h1 : (List.range (needs.length - 1))[dn.length]? = some i := by rw [hd, List.getElem?_append_right (Nat.le_refl _)]; simp
        obtain ⟨h2, h3⟩ := List.getElem?_eq_some_iff.mp h1
        rw [List.getElem_range] at h3
        omega
      have hlt : i < needs.length - 1 := List.mem_range.mp (by rw [hd]; simp)
      have hq := fun x => hZ _ ⟨x, rfl⟩
      rw [List.length_append, List.length_singleton, ← hi, List.range_succ, List.filterMap_append, List.map_append] at hq
      rw [← hi]
      have a1 : atI (needs.map PyData.int) ((needs.length : Int) - 1 - (i : Nat)) = some (.int (needs.getD (needs.length - (i + 1)) 0)) := by
        rw [show (needs.length : Int) - 1 - (i : Nat) = ((needs.length - (i + 1) : Nat) : Int) by omega]
        exact atI_nat (by rw [List.getElem?_map, List.getD_eq_getElem?_getD, List.getElem?_eq_getElem (by omega)]; rfl)
      have a2 : atI (needs.map PyData.int) ((needs.length : Int) - 1 - (i : Nat) - 1) = some (.int (needs.getD (needs.length - 2 - i) 0)) := by
        rw [show (needs.length : Int) - 1 - (i : Nat) - 1 = ((needs.length - 2 - i : Nat) : Int) by omega]
        exact atI_nat (by rw [List.getElem?_map, List.getD_eq_getElem?_getD, List.getElem?_eq_getElem (by omega)]; rfl)
      have hlo : lowT needs (needs.length - (i + 1)) = max (lowT needs (needs.length - i)) (needs.getD (needs.length - (i + 1)) 0) := by
        rw [lowT_step (by omega), show needs.length - (i + 1) + 1 = needs.length - i by omega]
      have hE : tailE needs (needs.length - 2 - i) = if lowT needs (needs.length - (i + 1)) < needs.getD (needs.length - 2 - i) 0 then some ((needs.length : Int) - 1 - (i : Nat), (needs.length : Int) - ((needs.length : Int) - 1 - (i : Nat)), lowT needs (needs.length - (i + 1)), needs.getD (needs.length - 2 - i) 0) else none := by
        unfold tailE
        rw [show needs.length - 2 - i + 1 = needs.length - (i + 1) by omega, show ((needs.length - 2 - i : Nat) : Int) + 1 = (needs.length : Int) - 1 - (i : Nat) by omega]
      have hml := List.length_filterMap_le (fun j => tailE needs (needs.length - 2 - j)) (List.range i)
      rw [List.length_range] at hml
      walk_at "z16"
      unfold q_tails_1
      simp only [x_wC, x_wEx, x_wNil, x_wCons, x_wOp, x_wT, x_wAndT, x_wOrT, x_wNotT, x_wIte, x_wAndV, x_wOrV, x_wNotV, x_wChain, x_wTru, x_wFz, x_wTup, x_wLst, x_wStar, x_wP0, x_wP1, x_wCut, x_wNext, x_wBrk, x_wCnt, x_wNever, x_wSeq, x_wNm, y_gn, y_gc, y_tp, x_wNmG, x_wAsg, x_wExpr, x_wRet, x_wRetN, x_wIf, x_wFor, x_wComp, x_wYes, x_wiSeq, x_wiEnum, x_wiRange1, x_wiRange2, y_par, y_al0, y_alC, y_app, x_wDisp, x_wDNew, x_wDNewT, x_wCall, x_wiZip, x_tmp, x_fs0, x_fs1, y_add, y_addS, y_addL, y_addT, y_sub, y_mul, y_rep, y_div, y_mod, y_pow, y_eq, y_eqS, y_eqL, y_eqT, y_ne, y_neS, y_neL, y_neT, y_lt, y_le, y_gt, y_ge, y_isN, y_notN, y_nNone, y_nInt, y_nStr, y_nTup, y_nLst, y_lenL, y_lenT, y_lenS, y_abs, y_max, y_min, y_int, y_intB, y_tupL, y_tupT, y_lstL, y_lstT, y_repr, y_neg, y_ixL, y_ixT, y_cutL, y_cutT, y_rev, y_starT, y_starL, y_starKT, y_starKL, y_itT, y_itKT, y_plain, y_itS, y_itKS, y_var, y_own, y_mv, y_seen, y_seenL, y_fetS, y_sl, y_tm0, y_tmS, y_tmI, y_tmT, y_tmX, y_tmN, y_tn0, y_tnC, y_mapS, y_io0, y_ioV, y_ioB, io_ex, y_nx, y_rt, y_fit0, y_fitT, y_fitN, y_fitX, y_fitS, y_setE0, y_setE1, y_pl, y_un, y_put, y_pop1, List.getElem?_cons_zero, List.getElem?_cons_succ, List.set_cons_zero, List.set_cons_succ, Option.some.injEq, PyData.int.injEq, PyData.bool.injEq, PyData.tuple.injEq, PyData.list.injEq, Prod.mk.injEq, Md.own.injEq, exists_eq_left', exists_eq_left, exists_eq', exists_eq, true_and, and_true, and_self, List.length_cons, List.length_nil, wipeE, restE, decide_eq_true_eq, Bool.not_eq_true', decide_eq_false_iff_not, Nat.reduceAdd, Nat.reduceLT, Nat.reduceLeDiff, Nat.zero_le, Nat.le_refl, waOf, List.map_cons, List.map_nil, Nat.zero_add, List.nil_append, Nat.lt_add_one, y_lfI, y_lfS, y_lfT, y_lfN, y_lfB, or_true, Nat.reduceSub, Nat.add_one_sub_one, List.map_append, List.length_map, exists_and_left, ↓reduceIte, Nat.lt_irrefl, y_po0, y_poS, y_poN, y_ou0, y_ouI, y_ouV, y_ouB, Bool.true_eq_false, Bool.false_eq_true, reduceCtorEq, a_nil, a_cons, a_vt, a_vs, a_is, a_bs, a_bt, a_v0, a_vl, a_vi, a_i0, a_b0, a_bl, y_bind, ok_0, ok_1, ok_2, ok_3, ok_4, ok_5, ok_6, ok_i1, ok_i2, ok_i3, ok_i4, ok_i5, ok_i6, Option.getD_some, Option.getD_none, y_appB, at_0, at_1, at_2, at_3, y_chL, y_chT, not_true_eq_false, not_false_eq_true, true_or, y_pop0, F__law_source, F__law_pick, F__law_of, F__law_draw_needs, F__law_gaps, source_ms, source_sp, pick_ms, pick_sp, of_ms, of_sp, draw_ms, draw_sp, lgaps_ms, lgaps_sp, y_ext, y_all, y_any, closed_ms, closed_sp, lsf_ms, lsf_sp, lc_ms, lc_sp, y_sumL, y_sumT, x_wIsi, x_wGlo, pl_N, pl_B, pl_I, pl_S, pl_L, pl_T, pl_D0, i_Nint, i_Nbool, i_Ntuple, i_Nstr, i_Nlist, i_Ndict, i_Bint, i_Bbool, i_Btuple, i_Bstr, i_Blist, i_Bdict, i_Iint, i_Ibool, i_Ituple, i_Istr, i_Ilist, i_Idict, i_Sint, i_Sbool, i_Stuple, i_Sstr, i_Slist, i_Sdict, i_Lint, i_Lbool, i_Ltuple, i_Lstr, i_Llist, i_Ldict, i_Tint, i_Tbool, i_Ttuple, i_Tstr, i_Tlist, i_Tdict, i_Dint, i_Dbool, i_Dtuple, i_Dstr, i_Dlist, i_Ddict, y_in, y_nin, y_ge2, y_ge2T, y_maxA, y_minA, y_mulT, kx_c, kx_v, kx_add, kx_sub, kx_it, kc_0, kx_i, kx_s, ko_add, ko_sub, y_plA, y_plB, y_plV, y_putA, y_putV, x_wShare, y_ixCD, y_din, y_dnin, wForK, wCompK, x_wLk, x_wLkS, x_wiKeys, y_own0, y_dictAt, x_disp1, keyOk_i, keyOk_s, y_listK, y_valsK, y_itemsK, plain_R, keys_R, vals_R, look_R, has_R, y_neE, y_addK, y_neDict, x_wLC, x_wiRange3, x_wIdx, y_isL, y_index, x_wiKeysB1, endX, x_wRaise, x_wRetX, x_wExpX, x_wSetX, x_wCX, x_wTryR, y_inTp, y_ninTp, y_eqEt, x_wMeth, y_m1, y_obP, y_fch, isFk_self, x_wMake, x_wCallT, y_lifN, y_lifT, y_lifS, y_lifV, y_lifB, y_plF, y_unF, y_putF, y_addF, x_wPopI, y_bs, y_ms, y_tk0, y_tkS, Option.map_some, List.cons_append, valleys_ms, valleys_sp, law_valleys_ms, law_valleys_sp, is_number_ms, is_number_sp, law_is_number_ms, law_is_number_sp, is_form_ms, is_form_sp, is_valley_ms, is_valley_sp, judge_need_paper_ms, judge_need_paper_sp, law_paper_fault_ms, law_paper_fault_sp, need_paper_ms, need_paper_sp, worth_at_ms, worth_at_sp, low_of_ms, low_of_sp, high_of_ms, high_of_sp, held_slope_ms, held_slope_sp, sum_of_ms, sum_of_sp, held_worth_ms, held_worth_sp, held_ms, held_sp, work_after_ms, work_after_sp, works_of_ms, works_of_sp, least_costs_ms, least_costs_sp, least_cost_ms, least_cost_sp, law_draw_slots_ms, law_draw_slots_sp, law_great_slots_ms, law_great_slots_sp, law_slot_costs_ms, law_slot_costs_sp, law_going_ms, law_going_sp, law_work_told_ms, law_work_told_sp, law_low_ms, law_low_sp, law_high_ms, law_high_sp, ended_ms, ended_sp, best_row_ms, best_row_sp, law_starts_ms, law_starts_sp, law_price_ms, law_price_sp, law_least_cost_ms, law_least_cost_sp, plain_slot_ms, plain_slot_sp, law_all_rows_ms, law_all_rows_sp, law_need_costs_ms, law_need_costs_sp, least_by_layers_ms, least_by_layers_sp, steps_behind_ms, steps_behind_sp, least_by_steps_ms, least_by_steps_sp, law_worths_ms, law_worths_sp, law_some_work_ms, law_some_work_sp, law_added_ms, law_added_sp, law_held_ms, law_held_sp, slot_cost_ms, slot_cost_sp, serves_ms, serves_sp, starts_ms, starts_sp, stops_ms, stops_sp, running_cost_ms, running_cost_sp, row_cost_ms, row_cost_sp, law_some_row_ms, law_some_row_sp, least_numbers_ms, least_numbers_sp, bound_of_ms, bound_of_sp, law_bound_ms, law_bound_sp, best_by_layers_ms, best_by_layers_sp, law_best_row_ms, law_best_row_sp, span_of_ms, span_of_sp, prices_for_ms, prices_for_sp, paper_of_ms, paper_of_sp, is_integer_ms, is_integer_sp, are_integers_ms, are_integers_sp, first_where_ms, first_where_sp, is_least_ms, is_least_sp, judge_paper_ms, judge_paper_sp, law_price_fault_ms, law_price_fault_sp, law_need_fault_ms, law_need_fault_sp, row_layers_ms, row_layers_sp, SightRunner_init_ms, SightRunner_init_sp, SightRunner_look_ms, SightRunner_look_sp, run_sight_ms, run_sight_sp, sight_row_ms, sight_row_sp, law_mixed_ms, law_mixed_sp, law_some_sight_ms, law_some_sight_sp, law_sight_row_ms, law_sight_row_sp, law_shown_row_ms, law_shown_row_sp, LazyRunner_init_ms, LazyRunner_init_sp, LazyRunner_look_ms, LazyRunner_look_sp, run_lazy_ms, run_lazy_sp, lazy_account_ms, lazy_account_sp, lazy_row_ms, lazy_row_sp, law_bounds_ms, law_bounds_sp, law_lazy_ms, law_lazy_sp, law_far_ms, law_far_sp, law_dear_ms, law_dear_sp, law_draw_slots0_ms, law_draw_slots0_sp, law_between_ms, law_between_sp, tails_ms, tails_sp, sight_cost_ms, sight_cost_sp, sight_room_ms, sight_room_sp, a1, a2]
      rw [← hlo]
      by_cases c : lowT needs (needs.length - (i + 1)) < needs.getD (needs.length - 2 - i) 0
      · rw [if_pos c]
        rw [if_pos c] at hE
        rw [List.filterMap_cons, List.filterMap_nil, hE] at hq
        refine ⟨by rw [szl]; decide, by rw [szl]; omega, hq _⟩
      · rw [if_neg c]
        rw [if_neg c] at hE
        rw [List.filterMap_cons, List.filterMap_nil, hE, List.map_nil, List.append_nil] at hq
        exact hq _
    · rintro e ⟨x3, rfl⟩
      rw [List.length_range]
      exact hV _ ⟨_, _, rfl⟩
  rintro e ⟨x2, x3, rfl⟩
  walk_at "z16"
  rw [← List.map_reverse]
  exact hR
local macro_rules | `(tactic| walk_at "z17") => `(tactic| simp only [valD, x_wC, x_wEx, x_wNil, x_wCons, x_wOp, x_wT, x_wAndT, x_wOrT, x_wNotT, x_wIte, x_wAndV, x_wOrV, x_wNotV, x_wChain, x_wTru, x_wFz, x_wTup, x_wLst, x_wStar, x_wP0, x_wP1, x_wCut, x_wNext, x_wBrk, x_wCnt, x_wNever, x_wSeq, x_wNm, y_gn, y_gc, y_tp, x_wNmG, x_wAsg, x_wExpr, x_wRet, x_wRetN, x_wIf, x_wFor, x_wComp, x_wYes, x_wiSeq, x_wiEnum, x_wiRange1, x_wiRange2, y_par, y_al0, y_alC, y_app, x_wDisp, x_wDNew, x_wDNewT, x_wCall, x_wiZip, x_tmp, x_fs0, x_fs1, y_add, y_addS, y_addL, y_addT, y_sub, y_mul, y_rep, y_div, y_mod, y_pow, y_eq, y_eqS, y_eqL, y_eqT, y_ne, y_neS, y_neL, y_neT, y_lt, y_le, y_gt, y_ge, y_isN, y_notN, y_nNone, y_nInt, y_nStr, y_nTup, y_nLst, y_lenL, y_lenT, y_lenS, y_abs, y_max, y_min, y_int, y_intB, y_tupL, y_tupT, y_lstL, y_lstT, y_repr, y_neg, y_ixL, y_ixT, y_cutL, y_cutT, y_rev, y_starT, y_starL, y_starKT, y_starKL, y_itT, y_itKT, y_plain, y_itS, y_itKS, y_var, y_own, y_mv, y_seen, y_seenL, y_fetS, y_sl, y_tm0, y_tmS, y_tmI, y_tmT, y_tmX, y_tmN, y_tn0, y_tnC, y_mapS, y_io0, y_ioV, y_ioB, io_ex, y_nx, y_rt, y_fit0, y_fitT, y_fitN, y_fitX, y_fitS, y_setE0, y_setE1, y_pl, y_un, y_put, y_pop1, List.getElem?_cons_zero, List.getElem?_cons_succ, List.set_cons_zero, List.set_cons_succ, Option.some.injEq, PyData.int.injEq, PyData.bool.injEq, PyData.tuple.injEq, PyData.list.injEq, Prod.mk.injEq, Md.own.injEq, exists_eq_left', exists_eq_left, exists_eq', exists_eq, true_and, and_true, and_self, List.length_cons, List.length_nil, wipeE, restE, decide_eq_true_eq, Bool.not_eq_true', decide_eq_false_iff_not, Nat.reduceAdd, Nat.reduceLT, Nat.reduceLeDiff, Nat.zero_le, Nat.le_refl, waOf, List.map_cons, List.map_nil, Nat.zero_add, List.nil_append, Nat.lt_add_one, y_lfI, y_lfS, y_lfT, y_lfN, y_lfB, or_true, Nat.reduceSub, Nat.add_one_sub_one, List.map_append, List.length_map, exists_and_left, ↓reduceIte, Nat.lt_irrefl, Nat.reduceLT, y_po0, y_poS, y_poN, y_ou0, y_ouI, y_ouV, y_ouB, Bool.true_eq_false, Bool.false_eq_true, reduceCtorEq, a_nil, a_cons, a_vt, a_vs, a_is, a_bs, a_bt, a_v0, a_vl, a_vi, a_i0, a_b0, a_bl, y_bind, ok_0, ok_1, ok_2, ok_3, ok_4, ok_5, ok_6, ok_i1, ok_i2, ok_i3, ok_i4, ok_i5, ok_i6, Option.getD_some, Option.getD_none, y_appB, at_0, at_1, at_2, at_3, y_chL, y_chT, not_true_eq_false, not_false_eq_true, true_or, y_pop0, F__law_source, F__law_pick, F__law_of, F__law_draw_needs, F__law_gaps, source_ms, source_sp, pick_ms, pick_sp, of_ms, of_sp, draw_ms, draw_sp, lgaps_ms, lgaps_sp, y_ext, y_all, y_any, closed_ms, closed_sp, lsf_ms, lsf_sp, lc_ms, lc_sp, y_sumL, y_sumT, x_wIsi, x_wGlo, pl_N, pl_B, pl_I, pl_S, pl_L, pl_T, pl_D0, i_Nint, i_Nbool, i_Ntuple, i_Nstr, i_Nlist, i_Ndict, i_Bint, i_Bbool, i_Btuple, i_Bstr, i_Blist, i_Bdict, i_Iint, i_Ibool, i_Ituple, i_Istr, i_Ilist, i_Idict, i_Sint, i_Sbool, i_Stuple, i_Sstr, i_Slist, i_Sdict, i_Lint, i_Lbool, i_Ltuple, i_Lstr, i_Llist, i_Ldict, i_Tint, i_Tbool, i_Ttuple, i_Tstr, i_Tlist, i_Tdict, i_Dint, i_Dbool, i_Dtuple, i_Dstr, i_Dlist, i_Ddict, y_in, y_nin, y_ge2, y_ge2T, y_maxA, y_minA, y_mulT, kx_c, kx_v, kx_add, kx_sub, kx_it, kc_0, kx_i, kx_s, ko_add, ko_sub, y_plA, y_plB, y_plV, y_putA, y_putV, x_wShare, y_ixCD, y_din, y_dnin, wForK, wCompK, x_wLk, x_wLkS, x_wiKeys, y_own0, y_dictAt, x_disp1, keyOk_i, keyOk_s, y_listK, y_valsK, y_itemsK, plain_R, keys_R, vals_R, look_R, has_R, y_neE, y_addK, y_neDict, x_wLC, x_wiRange3, x_wIdx, y_isL, y_index, x_wiKeysB1, endX, x_wRaise, x_wRetX, x_wExpX, x_wSetX, x_wCX, x_wTryR, y_inTp, y_ninTp, y_eqEt, x_wMeth, y_m1, y_obP, y_fch, isFk_self, x_wMake, x_wCallT, y_lifN, y_lifT, y_lifS, y_lifV, y_lifB, y_plF, y_unF, y_putF, y_addF, x_wPopI, y_bs, y_ms, y_tk0, y_tkS, Option.map_some, List.cons_append, List.nil_append, valleys_ms, valleys_sp, law_valleys_ms, law_valleys_sp, is_number_ms, is_number_sp, law_is_number_ms, law_is_number_sp, is_form_ms, is_form_sp, is_valley_ms, is_valley_sp, judge_need_paper_ms, judge_need_paper_sp, law_paper_fault_ms, law_paper_fault_sp, need_paper_ms, need_paper_sp, worth_at_ms, worth_at_sp, low_of_ms, low_of_sp, high_of_ms, high_of_sp, held_slope_ms, held_slope_sp, sum_of_ms, sum_of_sp, held_worth_ms, held_worth_sp, held_ms, held_sp, work_after_ms, work_after_sp, works_of_ms, works_of_sp, least_costs_ms, least_costs_sp, least_cost_ms, least_cost_sp, law_draw_slots_ms, law_draw_slots_sp, law_great_slots_ms, law_great_slots_sp, law_slot_costs_ms, law_slot_costs_sp, law_going_ms, law_going_sp, law_work_told_ms, law_work_told_sp, law_low_ms, law_low_sp, law_high_ms, law_high_sp, ended_ms, ended_sp, best_row_ms, best_row_sp, law_starts_ms, law_starts_sp, law_price_ms, law_price_sp, law_least_cost_ms, law_least_cost_sp, plain_slot_ms, plain_slot_sp, law_all_rows_ms, law_all_rows_sp, law_need_costs_ms, law_need_costs_sp, least_by_layers_ms, least_by_layers_sp, steps_behind_ms, steps_behind_sp, least_by_steps_ms, least_by_steps_sp, law_worths_ms, law_worths_sp, law_some_work_ms, law_some_work_sp, law_added_ms, law_added_sp, law_held_ms, law_held_sp, slot_cost_ms, slot_cost_sp, serves_ms, serves_sp, starts_ms, starts_sp, stops_ms, stops_sp, running_cost_ms, running_cost_sp, row_cost_ms, row_cost_sp, law_some_row_ms, law_some_row_sp, least_numbers_ms, least_numbers_sp, bound_of_ms, bound_of_sp, law_bound_ms, law_bound_sp, best_by_layers_ms, best_by_layers_sp, law_best_row_ms, law_best_row_sp, span_of_ms, span_of_sp, prices_for_ms, prices_for_sp, paper_of_ms, paper_of_sp, is_integer_ms, is_integer_sp, are_integers_ms, are_integers_sp, first_where_ms, first_where_sp, is_least_ms, is_least_sp, judge_paper_ms, judge_paper_sp, law_price_fault_ms, law_price_fault_sp, law_need_fault_ms, law_need_fault_sp, row_layers_ms, row_layers_sp, SightRunner_init_ms, SightRunner_init_sp, SightRunner_look_ms, SightRunner_look_sp, run_sight_ms, run_sight_sp, sight_row_ms, sight_row_sp, law_mixed_ms, law_mixed_sp, law_some_sight_ms, law_some_sight_sp, law_sight_row_ms, law_sight_row_sp, law_shown_row_ms, law_shown_row_sp, LazyRunner_init_ms, LazyRunner_init_sp, LazyRunner_look_ms, LazyRunner_look_sp, run_lazy_ms, run_lazy_sp, lazy_account_ms, lazy_account_sp, lazy_row_ms, lazy_row_sp, law_bounds_ms, law_bounds_sp, law_lazy_ms, law_lazy_sp, law_far_ms, law_far_sp, law_dear_ms, law_dear_sp, law_draw_slots0_ms, law_draw_slots0_sp, law_between_ms, law_between_sp, tails_ms, tails_sp, sight_cost_ms, sight_cost_sp, sight_room_ms, sight_room_sp])
theorem law_sight_cost (ds : List D) (R : Nat → D → List D → Prop) (h : F_sight_cost.sp ds R) : q_sight_cost (entE [.val, .val, .val] ds ++ List.replicate 5 none) (endK [.val, .val, .val] R) := by
  obtain ⟨needs, b, w, rfl, hl, hx, b0, b1, w0, w1, hR⟩ := h
  have szl : sizeLine = 16777216 := sizeLine_eq
  unfold q_sight_cost
  show (wSeq _ _) [some (.own 0, .tuple (needs.map .int)), some (.own 0, .int b), some (.own 0, .int w), none, none, none, none, none] _
  refine seq_mid (fun e => ∃ x4 x5 x6 x7, e = [some (.own 0, .tuple (needs.map .int)), some (.own 0, .int b), some (.own 0, .int w), some (.own 0, .int (needs.sum + b * topN needs)), x4, x5, x6, x7]) (fun V hV => ?_) ?_
  · walk_at "z16"
    rw [tmps_all]
    refine ⟨(0 :: needs).map .int, rfl, by rw [szl]; simp only [List.length_map, List.length_cons]; omega, ?_⟩
    rw [y_max1]
    refine ⟨Nat.le_refl _, by simp, fun m h1 h2 => ?_⟩
    rw [top_is h1 h2]
    have ht := topN_le needs
    have ht2 := topN_le' (row := needs) (c := 2 ^ 40) (by decide) fun x h => (hx x h).2
    walk_at "z16"
    exact ⟨mul_small ⟨by omega, by omega⟩ ⟨by omega, by omega⟩, hV _ ⟨_, _, _, _, rfl⟩⟩
  rintro e ⟨x4, x5, x6, x7, rfl⟩
  refine seq_mid (fun e => ∃ x4 x5 x6 x7, e = [some (.own 0, .tuple (needs.map .int)), some (.own 0, .int b), some (.own 0, .int w), some (.own 0, .int (needs.sum + b * topN needs + ((vals needs).map fun v => (v.2.2.2 - v.2.2.1) * gapC b w v.2.1).sum)), x4, x5, x6, x7]) (fun V hV => ?_) ?_
  · walk_at "z16"
    refine ⟨needs, rfl, hl, fun x h => (hx x h).1, ?_⟩
    refine for_map (p := valD) (fun done e => ∃ x4 x5 x6 x7, e = [some (.own 0, .tuple (needs.map .int)), some (.own 0, .int b), some (.own 0, .int w), some (.own 0, .int (needs.sum + b * topN needs + (done.map fun v => (v.2.2.2 - v.2.2.1) * gapC b w v.2.1).sum)), x4, x5, x6, x7]) ⟨x4, x5, x6, x7, by simp⟩ ?_ ?_
    · rintro dn v rest e hd ⟨x4, x5, x6, x7, rfl⟩ Z hZ
      obtain ⟨v1, v2, v3, v4⟩ := v
      have hv := vals_bd hx (by decide) (v1, v2, v3, v4) (by rw [hd]; simp)
      simp only at hv
      have hq := hZ _ ⟨some (.own 0, .int v1), some (.own 0, .int v2), some (.own 0, .int v3), some (.own 0, .int v4), rfl⟩
      rw [List.map_append, List.sum_append, List.map_cons, List.map_nil, List.sum_cons, List.sum_nil, Int.add_zero, ← Int.add_assoc] at hq
      walk_at "z17"
      unfold q_sight_cost_1
      walk_at "z16"
      by_cases c : v2 < b
      · rw [if_pos c, show (v4 - v3) * v2 = (v4 - v3) * gapC b w v2 by rw [show gapC b w v2 = v2 from if_pos c]]
        exact ⟨mul_small ⟨by omega, by omega⟩ ⟨by omega, by omega⟩, hq⟩
      · rw [if_neg c, show (v4 - v3) * (2 * b - 1 - w) = (v4 - v3) * gapC b w v2 by rw [show gapC b w v2 = 2 * b - 1 - w from if_neg c]]
        exact ⟨mul_small (by decide) ⟨by omega, by omega⟩, mul_small ⟨by omega, by omega⟩ ⟨by omega, by omega⟩, hq⟩
    · rintro e ⟨x4, x5, x6, x7, rfl⟩
      exact hV _ ⟨_, _, _, _, rfl⟩
  rintro e ⟨x4, x5, x6, x7, rfl⟩
  refine seq_mid (fun e => ∃ x4 x5 x6 x7, e = [some (.own 0, .tuple (needs.map .int)), some (.own 0, .int b), some (.own 0, .int w), some (.own 0, .int (sightC needs b w)), x4, x5, x6, x7]) (fun V hV => ?_) ?_
  · walk_at "z16"
    refine ⟨needs, rfl, hl, ?_⟩
    refine for_map (p := valD) (fun done e => ∃ x4 x5 x6 x7, e = [some (.own 0, .tuple (needs.map .int)), some (.own 0, .int b), some (.own 0, .int w), some (.own 0, .int (needs.sum + b * topN needs + ((vals needs).map fun v => (v.2.2.2 - v.2.2.1) * gapC b w v.2.1).sum + (done.map fun v => (v.2.2.2 - v.2.2.1) * min v.2.1 (b - 1 - w)).sum)), x4, x5, x6, x7]) ⟨x4, x5, x6, x7, by simp⟩ ?_ ?_
    · rintro dn v rest e hd ⟨x4, x5, x6, x7, rfl⟩ Z hZ
      obtain ⟨v1, v2, v3, v4⟩ := v
      have hv := tailsF_bd (by decide) hx (v1, v2, v3, v4) (by rw [hd]; simp)
      simp only at hv
      have hq := hZ _ ⟨some (.own 0, .int v1), some (.own 0, .int v2), some (.own 0, .int v3), some (.own 0, .int v4), rfl⟩
      rw [List.map_append, List.sum_append, List.map_cons, List.map_nil, List.sum_cons, List.sum_nil, Int.add_zero, ← Int.add_assoc] at hq
      walk_at "z17"
      unfold q_sight_cost_2
      walk_at "z16"
      exact ⟨mul_small ⟨by omega, by omega⟩ ⟨by omega, by omega⟩, hq⟩
    · rintro e ⟨x4, x5, x6, x7, rfl⟩
      exact hV _ ⟨_, _, _, _, rfl⟩
  rintro e ⟨x4, x5, x6, x7, rfl⟩
  walk_at "z16"
  exact hR
end Sq
/-! Sq100: prices by layers -/
namespace Sq
open PySem PySem.Spec PyProof.Rows L2
theorem upTo_gaps (f : Int → Int) (top : Nat) : ∀ vs : List (Int × Int × Int × Int), (∀ v ∈ vs, 0 ≤ v.2.2.1 ∧ v.2.2.1 ≤ v.2.2.2 ∧ v.2.2.2 ≤ top) → upTo (fun k => ((vs.filterMap fun v => if v.2.2.1 < k ∧ k ≤ v.2.2.2 then some (v.1, v.2.1) else none).map fun p : Int × Int => f p.2).sum) 0 top = (vs.map fun v => (v.2.2.2 - v.2.2.1) * f v.2.1).sum
  | [], _ => by
    simp only [List.filterMap_nil, List.map_nil, List.sum_nil]
    rw [upTo_const]
    simp
  | v :: vs, h => by
    have ih := upTo_gaps f top vs fun w hw => h w (List.mem_cons_of_mem _ hw)
    have hv := h v List.mem_cons_self
    have e : ∀ k, (((v :: vs).filterMap fun v => if v.2.2.1 < k ∧ k ≤ v.2.2.2 then some (v.1, v.2.1) else none).map fun p : Int × Int => f p.2).sum = (if v.2.2.1 < k ∧ k ≤ v.2.2.2 then f v.2.1 else 0) + ((vs.filterMap fun v => if v.2.2.1 < k ∧ k ≤ v.2.2.2 then some (v.1, v.2.1) else none).map fun p : Int × Int => f p.2).sum := by
      intro k
      rw [List.filterMap_cons]
      by_cases c : v.2.2.1 < k ∧ k ≤ v.2.2.2
      · simp [c]
      · simp [c]
    rw [upTo_congr (g := fun k => (if v.2.2.1 < k ∧ k ≤ v.2.2.2 then f v.2.1 else 0) + ((vs.filterMap fun v => if v.2.2.1 < k ∧ k ≤ v.2.2.2 then some (v.1, v.2.1) else none).map fun p : Int × Int => f p.2).sum) fun k _ _ => e k, upTo_plus, ih, upTo_one _ _ _ _ hv.1 hv.2.1 hv.2.2]
    simp
/-- the gaps of all layers, by valleys, with any price of a gap -/
theorem layers_gaps {needs : List Int} (f : Int → Int) (hx : ∀ x ∈ needs, 0 ≤ x) : upTo (fun k => ((pairs (onI needs k)).map fun p => f p.2).sum) 0 (topN needs).toNat = ((vals needs).map fun v => (v.2.2.2 - v.2.2.1) * f v.2.1).sum := by
  have t := topN_le needs
  rw [← upTo_gaps f (topN needs).toNat (vals needs) fun v hv => by
    have := vals_bd (c := topN needs) (fun x h => ⟨hx x h, t.2 x h⟩) t.1 v hv
    omega]
  refine upTo_congr fun k hk _ => ?_
  rw [← valGaps_eq hk]
  rfl
def onN (k : Int) : List Int → Int
  | [] => 0
  | x :: r => (if k ≤ x then 1 else 0) + onN k r
def riseN (k : Int) : Int → List Int → Int
  | _, [] => 0
  | p, x :: r => (if p < k ∧ k ≤ x then 1 else 0) + riseN k x r
theorem sum_layers {top : Nat} : ∀ {xs : List Int}, (∀ x ∈ xs, 0 ≤ x ∧ x ≤ top) → xs.sum = upTo (fun k => onN k xs) 0 top
  | [], _ => by
    show (0 : Int) = upTo (fun _ => 0) 0 top
    rw [upTo_const]
    simp
  | x :: r, h => by
    have ih := sum_layers (top := top) (xs := r) fun y hy => h y (List.mem_cons_of_mem _ hy)
    have hx := h x (by simp)
    show x + r.sum = upTo (fun k => (if k ≤ x then 1 else 0) + onN k r) 0 top
    rw [upTo_plus, ← ih, upTo_congr (g := fun k => if 0 < k ∧ k ≤ x then 1 else 0) (fun k hk _ => by
      by_cases c : k ≤ x
      · rw [if_pos c, if_pos ⟨by omega, c⟩]
      · rw [if_neg c, if_neg (fun q => c q.2)]), upTo_one 1 0 x top (by omega) hx.1 hx.2]
    omega
theorem starts_layers {top : Nat} : ∀ {xs : List Int} {p : Int}, 0 ≤ p → p ≤ top → (∀ x ∈ xs, 0 ≤ x ∧ x ≤ top) → startsF p xs = upTo (fun k => riseN k p xs) 0 top
  | [], p, _, _, _ => by
    show (0 : Int) = upTo (fun _ => 0) 0 top
    rw [upTo_const]
    simp
  | x :: r, p, p0, p1, h => by
    have hx := h x (by simp)
    have ih := starts_layers (top := top) (xs := r) (p := x) hx.1 hx.2 fun y hy => h y (List.mem_cons_of_mem _ hy)
    show max 0 (x - p) + startsF x r = upTo (fun k => (if p < k ∧ k ≤ x then 1 else 0) + riseN k x r) 0 top
    rw [upTo_plus, ← ih]
    by_cases c : p ≤ x
    · rw [upTo_one 1 p x top p0 c hx.2]
      omega
    · rw [upTo_congr (g := fun _ => 0) (fun k _ _ => if_neg (by omega)), upTo_const]
      omega
/-! ### what the sight runner pays for a layer -/
def seenB (k : Int) (xs : List Int) : Bool := xs.any fun z => decide (k ≤ z)
/-- what a layer pays from a state on -/
def payL (b k : Int) (w : Nat) : Int → Bool → List Int → Int
  | _, _, [] => 0
  | i, on, x :: r =>
    let i' := if k ≤ x then 0 else i + 1
    let on' := decide (k ≤ x) || (on && (decide (i' < b - w) || seenB k (x :: r.take w)))
    (if on' then 1 else 0) + (if on' && !on then b else 0) + payL b k w i' on' r
/-- the same by its gaps -/
def gapL (b k : Int) (w : Nat) : Option Int → List Int → Int
  | none, [] => 0
  | some j, [] => min j (b - 1 - w)
  | s, x :: r => if k ≤ x then 1 + (match s with | none => b | some j => gapC b w j) + gapL b k w (some 0) r else gapL b k w (upS 1 s) r
/-- the states behind j idle ticks, with what was paid for them -/
inductive GapS (b k : Int) (w : Nat) (j : Int) : Bool → Int → List Int → Prop
  | near {row : List Int} (h : j < b - w) : GapS b k w j true j row
  | seen {row : List Int} (h : b - w ≤ j) (z : Int) (hz : z ∈ row.take (b - j).toNat) (hk : k ≤ z) : GapS b k w j true j row
  | gone {row : List Int} (h : b - w ≤ j) (hn : ∀ z ∈ row.take (b - j).toNat, ¬ k ≤ z) : GapS b k w j false (b - 1 - w) row
theorem pay_gap {b k : Int} {w : Nat} (hw : (w : Int) ≤ b - 1) : ∀ {row : List Int} {j c : Int} {on : Bool}, 0 ≤ j → GapS b k w j on c row → c + payL b k w j on row = gapL b k w (some j) row
  | [], j, c, on, h0, g => by
    unfold payL gapL
    cases g with
    | near h => omega
    | seen h z hz hk => exact absurd hz (by simp)
    | gone h hn => omega
  | x :: r, j, c, on, h0, g => by
    by_cases hx : k ≤ x
    · have ih := pay_gap (b := b) (k := k) (w := w) hw (row := r) (j := 0) (c := 0) (on := true) (Int.le_refl 0) (.near (by omega))
      unfold payL gapL
      simp only [hx, decide_true, Bool.true_or, if_true, Bool.true_and]
      rw [← ih]
      cases g with
      | near h =>
        have hg : gapC b w j = j := if_pos (by omega)
        simp [hg]
        omega
      | seen h z hz hk =>
        have hj : j < b := by
          by_cases q : j < b
          · exact q
          · rw [show (b - j).toNat = 0 by omega] at hz
            exact absurd hz (by simp)
        have hg : gapC b w j = j := if_pos hj
        simp [hg]
        omega
      | gone h hn =>
        have hj : ¬ j < b := fun q => hn x (by
          rw [show (b - j).toNat = (b - j - 1).toNat + 1 by omega, List.take_succ_cons]
          simp) hx
        have hg : gapC b w j = 2 * b - 1 - w := if_neg hj
        simp [hg]
        omega
    · unfold payL gapL
      simp only [hx, decide_false, Bool.false_or, if_false, upS, seenB, List.any_cons]
      cases g with
      | near h =>
        by_cases q : j + 1 < b - w
        · have ih := pay_gap (b := b) (k := k) (w := w) hw (row := r) (j := j + 1) (c := j + 1) (on := true) (by omega) (.near q)
          rw [← ih]
          simp [q]
          omega
        · have e : (b - (j + 1)).toNat = w := by omega
          cases hs : ((r.take w).any fun z => decide (k ≤ z)) with
          | true =>
            obtain ⟨z, hz, hk⟩ := List.any_eq_true.mp hs
            have ih := pay_gap (b := b) (k := k) (w := w) hw (row := r) (j := j + 1) (c := j + 1) (on := true) (by omega) (.seen (by omega) z (by rw [e]; exact hz) (by simpa using hk))
            rw [← ih]
            simp [q]
            omega
          | false =>
            have ih := pay_gap (b := b) (k := k) (w := w) hw (row := r) (j := j + 1) (c := b - 1 - w) (on := false) (by omega) (.gone (by omega) (fun z hz (hk : k ≤ z) => by
              rw [e] at hz
              have := List.any_eq_false.mp hs z hz
              simp at this
              omega))
            rw [← ih]
            simp [q]
            omega
      | seen h z hz hk =>
        have hj : (b - j).toNat = (b - (j + 1)).toNat + 1 := by
          by_cases q : j < b
          · omega
          · rw [show (b - j).toNat = 0 by omega] at hz
            exact absurd hz (by simp)
        rw [hj, List.take_succ_cons] at hz
        have hz2 : z ∈ r.take (b - (j + 1)).toNat := by
          rcases List.mem_cons.mp hz with rfl | hz
          · exact absurd hk hx
          · exact hz
        have hs : ((r.take w).any fun z => decide (k ≤ z)) = true := List.any_eq_true.mpr ⟨z, (List.take_subset_take_left r (show (b - (j + 1)).toNat ≤ w by omega)) hz2, by simpa using hk⟩
        have ih := pay_gap (b := b) (k := k) (w := w) hw (row := r) (j := j + 1) (c := j + 1) (on := true) (by omega) (.seen (by omega) z hz2 hk)
        rw [← ih, hs]
        simp
        omega
      | gone h hn =>
        have ih := pay_gap (b := b) (k := k) (w := w) hw (row := r) (j := j + 1) (c := b - 1 - w) (on := false) (by omega) (.gone (by omega) (fun z hz => hn z (by
          by_cases q : j < b
          · rw [show (b - j).toNat = (b - (j + 1)).toNat + 1 by omega, List.take_succ_cons]
            exact List.mem_cons_of_mem _ hz
          · rw [show (b - (j + 1)).toNat = 0 by omega] at hz
            exact absurd hz (by simp))))
        rw [← ih]
        simp
theorem pay_none {b k : Int} {w : Nat} (hw : (w : Int) ≤ b - 1) : ∀ {row : List Int} {i : Int}, payL b k w i false row = gapL b k w none row
  | [], _ => rfl
  | x :: r, i => by
    by_cases hx : k ≤ x
    · have ih := pay_gap (b := b) (k := k) (w := w) hw (row := r) (j := 0) (c := 0) (on := true) (Int.le_refl 0) (.near (by omega))
      unfold payL gapL
      simp only [hx, decide_true, Bool.true_or, if_true, Bool.not_false, Bool.true_and]
      rw [← ih]
      omega
    · have ih := pay_none (k := k) hw (row := r) (i := i + 1)
      unfold payL gapL
      simp only [hx, decide_false, Bool.false_or, Bool.false_and, if_false, upS]
      simpa using ih
/-- the run's price by layers, from a tick on -/
theorem pay_run {b k : Int} {w : Nat} (hw : (w : Int) ≤ b - 1) (hk : 1 ≤ k) {needs : List Int} : ∀ (n t : Nat), needs.length - t = n → t ≤ needs.length →
    payL b k w (layS (b - w) (aheadL needs fun _ => w) needs k t).1 (layS (b - w) (aheadL needs fun _ => w) needs k t).2 (needs.drop t) =
      onN k ((sightR (b - 1 - w).toNat (aheadL needs fun _ => w) needs).drop t) + b * riseN k (sRun (b - 1 - w).toNat (aheadL needs fun _ => w) needs t).2 ((sightR (b - 1 - w).toNat (aheadL needs fun _ => w) needs).drop t)
  | 0, t, h, ht => by
    have hl : (sightR (b - 1 - w).toNat (aheadL needs fun _ => w) needs).length = needs.length := by simp [sightR]
    rw [List.drop_of_length_le (by omega), List.drop_of_length_le (by omega)]
    simp [payL, onN, riseN]
  | n + 1, t, h, ht => by
    have ih := pay_run hw hk (needs := needs) n (t + 1) (by omega) (by omega)
    have hl : (sightR (b - 1 - w).toNat (aheadL needs fun _ => w) needs).length = needs.length := by simp [sightR]
    have hm : b - (w : Int) = (((b - 1 - w).toNat : Nat) : Int) + 1 := by omega
    have o1 := on_lay (many := (b - 1 - w).toNat) (keep := b - w) (hd := aheadL needs fun _ => w) (needs := needs) (k := k) hk hm t ht
    have o2 := on_lay (many := (b - 1 - w).toNat) (keep := b - w) (hd := aheadL needs fun _ => w) (needs := needs) (k := k) hk hm (t + 1) (by omega)
    have eg : (sightR (b - 1 - w).toNat (aheadL needs fun _ => w) needs).getD t 0 = (sRun (b - 1 - w).toNat (aheadL needs fun _ => w) needs (t + 1)).2 := by
      unfold sightR
      rw [List.getD_eq_getElem?_getD, List.getElem?_map, List.getElem?_range (by omega)]
      rfl
    rw [drop_get needs (by omega), drop_get (sightR (b - 1 - w).toNat (aheadL needs fun _ => w) needs) (by omega), eg]
    have e1 : (layS (b - w) (aheadL needs fun _ => w) needs k (t + 1)).1 = if k ≤ needs.getD t 0 then 0 else (layS (b - w) (aheadL needs fun _ => w) needs k t).1 + 1 := rfl
    have e2 : (layS (b - w) (aheadL needs fun _ => w) needs k (t + 1)).2 = (decide (k ≤ needs.getD t 0) || ((layS (b - w) (aheadL needs fun _ => w) needs k t).2 && (decide ((if k ≤ needs.getD t 0 then 0 else (layS (b - w) (aheadL needs fun _ => w) needs k t).1 + 1) < b - w) || seenB k (needs.getD t 0 :: (needs.drop (t + 1)).take w)))) := rfl
    unfold payL
    simp only
    rw [← e2, ← e1, ih]
    rw [show ∀ (x : Int) (r : List Int), onN k (x :: r) = (if k ≤ x then 1 else 0) + onN k r from fun _ _ => rfl, show ∀ (p x : Int) (r : List Int), riseN k p (x :: r) = (if p < k ∧ k ≤ x then 1 else 0) + riseN k x r from fun _ _ _ => rfl]
    generalize (layS (b - w) (aheadL needs fun _ => w) needs k t).2 = p at *
    generalize (layS (b - w) (aheadL needs fun _ => w) needs k (t + 1)).2 = q at *
    generalize (sRun (b - 1 - w).toNat (aheadL needs fun _ => w) needs t).2 = u at *
    generalize (sRun (b - 1 - w).toNat (aheadL needs fun _ => w) needs (t + 1)).2 = v at *
    generalize List.drop (t + 1) (sightR (b - 1 - w).toNat (aheadL needs fun _ => w) needs) = L at *
    rw [Int.mul_add]
    cases p <;> cases q <;> simp only [Bool.false_eq_true, iff_false, iff_true] at o1 o2
    · rw [show (if k ≤ v then (1 : Int) else 0) = 0 from if_neg o2, show (if u < k ∧ k ≤ v then (1 : Int) else 0) = 0 from if_neg fun h => o2 h.2]
      simp
    · rw [show (if k ≤ v then (1 : Int) else 0) = 1 from if_pos o2, show (if u < k ∧ k ≤ v then (1 : Int) else 0) = 1 from if_pos ⟨by omega, o2⟩]
      simp
      omega
    · rw [show (if k ≤ v then (1 : Int) else 0) = 0 from if_neg o2, show (if u < k ∧ k ≤ v then (1 : Int) else 0) = 0 from if_neg fun h => o2 h.2]
      simp
    · rw [show (if k ≤ v then (1 : Int) else 0) = 1 from if_pos o2, show (if u < k ∧ k ≤ v then (1 : Int) else 0) = 0 from if_neg fun h => absurd o1 (by omega)]
      simp
      omega
theorem upTo_mul (c : Int) (f : Int → Int) (low : Int) : ∀ n : Nat, upTo (fun k => c * f k) low n = c * upTo f low n := fun n => by
  unfold upTo
  rw [← sum_mul, List.map_map]
  rfl
/-- the sight runner's price by layers -/
theorem sight_price {b : Int} {w : Nat} (hw : (w : Int) ≤ b - 1) {needs : List Int} (hx : ∀ x ∈ needs, 0 ≤ x) :
    (sightR (b - 1 - w).toNat (aheadL needs fun _ => w) needs).sum + b * startsF 0 (sightR (b - 1 - w).toNat (aheadL needs fun _ => w) needs) = upTo (fun k => gapL b k w none needs) 0 (topN needs).toNat := by
  have t := topN_le needs
  have hR : ∀ x ∈ sightR (b - 1 - w).toNat (aheadL needs fun _ => w) needs, 0 ≤ x ∧ x ≤ ((topN needs).toNat : Int) := fun x hx => by
    obtain ⟨u, hu, rfl⟩ := List.mem_map.mp hx
    have hu := List.mem_range.mp hu
    have h1 := on_ge (many := (b - 1 - w).toNat) (hd := aheadL needs fun _ => w) (needs := needs) (u + 1)
    have h2 := on_top (many := (b - 1 - w).toNat) (hd := aheadL needs fun _ => w) (needs := needs) (u + 1) (by omega)
    exact ⟨h1, by omega⟩
  rw [sum_layers hR, starts_layers (Int.le_refl 0) (by omega) hR, ← upTo_mul, ← upTo_plus]
  refine upTo_congr fun k h1 _ => ?_
  have := pay_run (k := k) hw (by omega) (needs := needs) needs.length 0 rfl (Nat.zero_le _)
  rw [List.drop_zero, List.drop_zero] at this
  rw [← pay_none hw (i := (layS (b - w) (aheadL needs fun _ => w) needs k 0).1)]
  exact this.symm
end Sq
/-! Sq101: the first sentence: what the sight runner pays against the least cost -/
namespace Sq
open PySem PySem.Spec PyProof.Rows L2
theorem gapL_some {b k j x : Int} {w : Nat} {r : List Int} : gapL b k w (some j) (x :: r) = if k ≤ x then 1 + gapC b w j + gapL b k w (some 0) r else gapL b k w (some (j + 1)) r := by
  rw [gapL]
  rfl
theorem gapL_none {b k x : Int} {w : Nat} {r : List Int} : gapL b k w none (x :: r) = if k ≤ x then 1 + b + gapL b k w (some 0) r else gapL b k w none r := by
  rw [gapL]
  rfl
theorem room_some {b k : Int} {w : Nat} (hw : (w : Int) ≤ b - 1) : ∀ {row : List Int} {j : Int}, 0 ≤ j → (b + 1) * gapL b k w (some j) row ≤ (2 * b - w) * (onN k row + layC b k (some j) row) + (b + 1) * (b - 1 - w)
  | [], j, h0 => by
    show (b + 1) * min j (b - 1 - w) ≤ (2 * b - w) * (0 + 0) + (b + 1) * (b - 1 - w)
    have := mul_mono (b := b + 1) (by omega) (show min j (b - 1 - (w : Int)) ≤ b - 1 - w by omega)
    simp
    omega
  | x :: r, j, h0 => by
    by_cases hx : k ≤ x
    · have ih := room_some hw (k := k) (row := r) (j := 0) (Int.le_refl 0)
      have e1 : gapL b k w (some j) (x :: r) = 1 + gapC b w j + gapL b k w (some 0) r := by first | rw [gapL_some, if_pos hx] | rw [gapL_none, if_pos hx]
      have e2 : layC b k (some j) (x :: r) = min j b + layC b k (some 0) r := by simp only [layC, if_pos hx, stC]
      have e3 : onN k (x :: r) = 1 + onN k r := by show (if k ≤ x then (1 : Int) else 0) + onN k r = _; rw [if_pos hx]
      rw [e1, e2, e3]
      have q : (b + 1) * (1 + gapC b w j) ≤ (2 * b - w) * (1 + min j b) := by
        by_cases c : j < b
        · rw [show gapC b w j = j from if_pos c, show min j b = j by omega]
          exact Int.mul_le_mul_of_nonneg_right (by omega) (by omega)
        · rw [show gapC b w j = 2 * b - 1 - w from if_neg c, show min j b = b by omega, show 1 + (2 * b - 1 - (w : Int)) = 2 * b - w by omega, Int.mul_comm, show (1 : Int) + b = b + 1 by omega]
          exact Int.le_refl _
      rw [show 1 + gapC b w j + gapL b k w (some 0) r = (1 + gapC b w j) + gapL b k w (some 0) r by omega, Int.mul_add, show 1 + onN k r + (min j b + layC b k (some 0) r) = (1 + min j b) + (onN k r + layC b k (some 0) r) by omega, Int.mul_add (2 * b - (w : Int))]
      omega
    · have ih := room_some hw (k := k) (row := r) (j := j + 1) (by omega)
      have e1 : gapL b k w (some j) (x :: r) = gapL b k w (some (j + 1)) r := by rw [gapL_some, if_neg hx]
      have e2 : layC b k (some j) (x :: r) = layC b k (some (j + 1)) r := by simp only [layC, if_neg hx, upS]
      have e3 : onN k (x :: r) = onN k r := by show (if k ≤ x then (1 : Int) else 0) + onN k r = _; rw [if_neg hx]; omega
      rw [e1, e2, e3]
      exact ih
theorem room_none {b k : Int} {w : Nat} (hw : (w : Int) ≤ b - 1) : ∀ {row : List Int}, (b + 1) * gapL b k w none row ≤ (2 * b - w) * (onN k row + layC b k none row)
  | [] => by
    show (b + 1) * 0 ≤ (2 * b - w) * (0 + 0)
    simp
  | x :: r => by
    by_cases hx : k ≤ x
    · have ih := room_some hw (k := k) (row := r) (j := 0) (Int.le_refl 0)
      have e1 : gapL b k w none (x :: r) = (1 + b) + gapL b k w (some 0) r := by first | rw [gapL_some, if_pos hx] | rw [gapL_none, if_pos hx]
      have e2 : layC b k none (x :: r) = b + layC b k (some 0) r := by simp only [layC, if_pos hx, stC]
      have e3 : onN k (x :: r) = 1 + onN k r := by show (if k ≤ x then (1 : Int) else 0) + onN k r = _; rw [if_pos hx]
      rw [e1, e2, e3, Int.mul_add, show 1 + onN k r + (b + layC b k (some 0) r) = (1 + b) + (onN k r + layC b k (some 0) r) by omega, Int.mul_add (2 * b - (w : Int))]
      have q : (2 * b - (w : Int)) * (1 + b) = (b + 1) * (1 + b) + (b + 1) * (b - 1 - w) := by
        rw [← Int.mul_add, show 1 + b + (b - 1 - (w : Int)) = 2 * b - w by omega, Int.mul_comm, show (1 : Int) + b = b + 1 by omega]
      omega
    · have ih := room_none hw (k := k) (row := r)
      have e1 : gapL b k w none (x :: r) = gapL b k w none r := by rw [gapL_none, if_neg hx]
      have e2 : layC b k none (x :: r) = layC b k none r := by simp only [layC, if_neg hx, upS]
      have e3 : onN k (x :: r) = onN k r := by show (if k ≤ x then (1 : Int) else 0) + onN k r = _; rw [if_neg hx]; omega
      rw [e1, e2, e3]
      exact ih
/-- the first sentence -/
theorem first_sentence {b : Int} {w : Nat} (hw : (w : Int) ≤ b - 1) {needs : List Int} (hx : ∀ x ∈ needs, 0 ≤ x) :
    (b + 1) * ((sightR (b - 1 - w).toNat (aheadL needs fun _ => w) needs).sum + b * startsF 0 (sightR (b - 1 - w).toNat (aheadL needs fun _ => w) needs)) ≤ (2 * b - w) * layersCost needs b := by
  have t := topN_le needs
  have hN : ∀ x ∈ needs, 0 ≤ x ∧ x ≤ ((topN needs).toNat : Int) := fun x h => ⟨hx x h, by have := t.2 x h; omega⟩
  rw [sight_price hw hx, lay_eq (by omega) (M := (topN needs).toNat) (by omega), sum_layers hN, ← upTo_plus, ← upTo_mul, ← upTo_mul]
  exact upC_mono fun k _ _ => room_none hw
end Sq
/-! Sq102: what the sight runner's run costs, by valleys and tails -/
namespace Sq
open PySem PySem.Spec PyProof.Rows L2
def stG (b : Int) (w : Nat) : Option Int → Int
  | none => b
  | some j => gapC b w j
def stW (b k : Int) (w : Nat) : Option Int → List Int → Int
  | _, [] => 0
  | s, x :: r => if k ≤ x then stG b w s + stW b k w (some 0) r else stW b k w (upS 1 s) r
def tlF (m : Int) : Option Int → Int
  | none => 0
  | some j => min j m
theorem gap_split {b k : Int} {w : Nat} : ∀ {row : List Int} {s : Option Int}, gapL b k w s row = onN k row + stW b k w s row + tlF (b - 1 - w) (runS k s row)
  | [], none => rfl
  | [], some j => by simp [gapL, onN, stW, tlF, runS]
  | x :: r, s => by
    have i1 := gap_split (b := b) (k := k) (w := w) (row := r) (s := some 0)
    have i2 := gap_split (b := b) (k := k) (w := w) (row := r) (s := upS 1 s)
    have eo : onN k (x :: r) = (if k ≤ x then 1 else 0) + onN k r := rfl
    have es : stW b k w s (x :: r) = if k ≤ x then stG b w s + stW b k w (some 0) r else stW b k w (upS 1 s) r := rfl
    have er : runS k s (x :: r) = if k ≤ x then runS k (some 0) r else runS k (upS 1 s) r := rfl
    by_cases hx : k ≤ x
    · rw [eo, es, er, if_pos hx, if_pos hx, if_pos hx]
      cases s with
      | none =>
        rw [gapL_none, if_pos hx, i1]
        simp only [stG]
        omega
      | some j =>
        rw [gapL_some, if_pos hx, i1]
        simp only [stG]
        omega
    · rw [eo, es, er, if_neg hx, if_neg hx, if_neg hx]
      cases s with
      | none =>
        rw [gapL_none, if_neg hx]
        have i2 : gapL b k w none r = onN k r + stW b k w none r + tlF (b - 1 - w) (runS k none r) := i2
        rw [i2]
        show _ = 0 + onN k r + stW b k w none r + tlF (b - 1 - w) (runS k none r)
        omega
      | some j =>
        rw [gapL_some, if_neg hx]
        have i2 : gapL b k w (some (j + 1)) r = onN k r + stW b k w (some (j + 1)) r + tlF (b - 1 - w) (runS k (some (j + 1)) r) := i2
        rw [i2]
        show _ = 0 + onN k r + stW b k w (some (j + 1)) r + tlF (b - 1 - w) (runS k (some (j + 1)) r)
        omega
def costG (row : List Int) (b k : Int) (w : Nat) : Int := ((pairs (onI row k)).map fun p => gapC b w p.2).sum
def gapG (t b : Int) (w : Nat) : Option Int → Int
  | none => 0
  | some a => if a + 1 < t then gapC b w (t - a - 1) else 0
theorem costG_snoc (row : List Int) (x b k : Int) (w : Nat) : costG (row ++ [x]) b k w = costG row b k w + (if k ≤ x then gapG row.length b w (onI row k).getLast? else 0) := by
  unfold costG
  rw [onI_snoc]
  by_cases h : k ≤ x
  · rw [if_pos h, if_pos h, pairs_snoc, List.map_append, List.sum_append]
    congr 1
    cases (onI row k).getLast? with
    | none => rfl
    | some a =>
      simp only [gapG]
      split
      · simp
      · simp
  · rw [if_neg h, if_neg h, List.append_nil, Int.add_zero]
theorem stW_from {b k : Int} {w : Nat} (b0 : 1 ≤ b) : ∀ {r done : List Int}, (if onI (done ++ r) k = [] then 0 else b) + costG (done ++ r) b k w = (if onI done k = [] then 0 else b) + costG done b k w + stW b k w (lastS (done.length : Int) (onI done k).getLast?) r
  | [], done => by simp [stW]
  | x :: r, done => by
    have ih := stW_from b0 (k := k) (w := w) (r := r) (done := done ++ [x])
    rw [List.append_assoc, List.singleton_append, costG_snoc, onI_snoc, List.length_append, List.length_singleton] at ih
    rw [ih]
    simp only [stW]
    by_cases h : k ≤ x
    · simp only [if_pos h]
      rw [if_neg (by simp), List.getLast?_append, List.getLast?_singleton]
      have e0 : lastS ((done.length + 1 : Nat) : Int) (some (done.length : Int)) = some 0 := by
        show some _ = _
        congr 1
        omega
      simp only [Option.some_or, e0]
      cases hl : (onI done k).getLast? with
      | none =>
        rw [List.getLast?_eq_none_iff.mp hl, if_pos rfl]
        simp only [gapG, lastS, stG]
        omega
      | some a =>
        have ha := onI_mem (List.mem_of_getLast? hl)
        have ne : onI done k ≠ [] := fun e => by rw [e] at hl; cases hl
        rw [if_neg ne]
        simp only [gapG, lastS, stG]
        by_cases q : a + 1 < (done.length : Int)
        · rw [if_pos q]
          omega
        · rw [if_neg q, show (done.length : Int) - a - 1 = 0 by omega, show gapC b w 0 = 0 from if_pos (by omega)]
          omega
    · simp only [if_neg h, List.append_nil]
      have e1 : lastS ((done.length + 1 : Nat) : Int) (onI done k).getLast? = upS 1 (lastS (done.length : Int) (onI done k).getLast?) := by
        cases (onI done k).getLast? with
        | none => rfl
        | some a =>
          show some _ = some _
          congr 1
          omega
      rw [e1]
      omega
theorem stW_cost {b k : Int} {w : Nat} (b0 : 1 ≤ b) {row : List Int} : (if onI row k = [] then 0 else b) + costG row b k w = stW b k w none row := by
  have := stW_from b0 (k := k) (w := w) (r := row) (done := [])
  have e : onI [] k = [] := rfl
  have e2 : costG [] b k w = 0 := rfl
  rw [List.nil_append, e, e2] at this
  simpa [lastS] using this
/-! ### tails -/
def topR (r : List Int) : Int := r.foldr max 0
def tS (m k : Int) : List Int → Int
  | [] => 0
  | x :: r => (if topR r < k ∧ k ≤ x then min (r.length : Int) m else 0) + tS m k r
def tT (m : Int) : List Int → Int
  | [] => 0
  | x :: r => max 0 (x - topR r) * min (r.length : Int) m + tT m r
theorem topR_lt {k : Int} (hk : 1 ≤ k) : ∀ {r : List Int}, topR r < k ↔ ∀ z ∈ r, z < k
  | [] => by simp [topR]; omega
  | x :: r => by
    have ih := topR_lt hk (r := r)
    have e : topR (x :: r) = max x (topR r) := rfl
    rw [e]
    constructor
    · intro h z hz
      rcases List.mem_cons.mp hz with rfl | hz
      · omega
      · exact (ih.mp (by omega)) z hz
    · intro h
      have h1 := h x (by simp)
      have h2 := ih.mpr fun z hz => h z (List.mem_cons_of_mem _ hz)
      omega
theorem run_off {k : Int} : ∀ {r : List Int} {j : Int}, (∀ z ∈ r, z < k) → runS k (some j) r = some (j + r.length)
  | [], j, _ => by simp [runS]
  | x :: r, j, h => by
    have hx := h x (by simp)
    have ih := run_off (k := k) (r := r) (j := j + 1) fun z hz => h z (List.mem_cons_of_mem _ hz)
    show (if k ≤ x then _ else runS k (upS 1 (some j)) r) = _
    rw [if_neg (by omega)]
    show runS k (some (j + 1)) r = _
    rw [ih, List.length_cons]
    congr 1
    omega
theorem run_any {k : Int} : ∀ {r : List Int} {s s' : Option Int}, (∃ z ∈ r, k ≤ z) → runS k s r = runS k s' r
  | [], _, _, h => by obtain ⟨z, hz, _⟩ := h; cases hz
  | x :: r, s, s', h => by
    show (if k ≤ x then runS k (some 0) r else runS k (upS 1 s) r) = if k ≤ x then runS k (some 0) r else runS k (upS 1 s') r
    by_cases hx : k ≤ x
    · rw [if_pos hx, if_pos hx]
    · rw [if_neg hx, if_neg hx]
      obtain ⟨z, hz, hk⟩ := h
      rcases List.mem_cons.mp hz with rfl | hz
      · exact absurd hk hx
      · exact run_any ⟨z, hz, hk⟩
theorem run_none {k : Int} : ∀ {r : List Int}, (∀ z ∈ r, z < k) → runS k none r = none
  | [], _ => rfl
  | x :: r, h => by
    have hx := h x (by simp)
    show (if k ≤ x then _ else runS k none r) = _
    rw [if_neg (by omega)]
    exact run_none fun z hz => h z (List.mem_cons_of_mem _ hz)
theorem tail_one {m k : Int} (hk : 1 ≤ k) : ∀ {row : List Int}, tlF m (runS k none row) = tS m k row
  | [] => rfl
  | x :: r => by
    have ih := tail_one (m := m) hk (row := r)
    show tlF m (if k ≤ x then runS k (some 0) r else runS k none r) = (if topR r < k ∧ k ≤ x then min (r.length : Int) m else 0) + tS m k r
    by_cases hx : k ≤ x
    · rw [if_pos hx]
      by_cases ht : topR r < k
      · have hz := (topR_lt hk).mp ht
        rw [if_pos ⟨ht, hx⟩, ← ih, run_off hz, run_none hz]
        simp [tlF]
      · rw [if_neg (fun h => ht h.1), ← ih]
        have : ∃ z ∈ r, k ≤ z := by
          by_cases q : ∃ z ∈ r, k ≤ z
          · exact q
          · exact absurd ((topR_lt hk).mpr fun z hz => by
              by_cases c : k ≤ z
              · exact absurd ⟨z, hz, c⟩ q
              · omega) ht
        rw [run_any (s' := none) this]
        omega
    · rw [if_neg hx, if_neg (fun h => hx h.2), ih]
      omega
end Sq
/-! Sq103: the price by valleys and tails is the run's price -/
namespace Sq
open PySem PySem.Spec PyProof.Rows L2
theorem topR_0 : ∀ {r : List Int}, 0 ≤ topR r
  | [] => Int.le_refl 0
  | x :: r => by
    have := topR_0 (r := r)
    show 0 ≤ max x (topR r)
    omega
theorem tails_layers {m : Int} {top : Nat} : ∀ {row : List Int}, (∀ x ∈ row, 0 ≤ x ∧ x ≤ (top : Int)) → upTo (fun k => tS m k row) 0 top = tT m row
  | [], _ => by
    show upTo (fun _ => 0) 0 top = 0
    rw [upTo_const]
    simp
  | x :: r, h => by
    have hx := h x (by simp)
    have ih := tails_layers (m := m) (top := top) (row := r) fun y hy => h y (List.mem_cons_of_mem _ hy)
    show upTo (fun k => (if topR r < k ∧ k ≤ x then min (r.length : Int) m else 0) + tS m k r) 0 top = max 0 (x - topR r) * min (r.length : Int) m + tT m r
    rw [upTo_plus, ih]
    by_cases c : topR r ≤ x
    · rw [upTo_one _ _ _ _ topR_0 c hx.2, show max 0 (x - topR r) = x - topR r by omega]
    · rw [upTo_congr (g := fun _ => 0) (fun k _ _ => if_neg (by omega)), upTo_const, show max 0 (x - topR r) = 0 by omega]
      simp
def Gt (m : Int) (needs : List Int) (i : Nat) : Int := max 0 (needs.getD i 0 - lowT needs (i + 1)) * min ((needs.length : Int) - ((i : Int) + 1)) m
theorem Gt_sum {m : Int} : ∀ {needs : List Int}, ((List.range needs.length).map (Gt m needs)).sum = tT m needs
  | [] => rfl
  | x :: r => by
    have ih := Gt_sum (m := m) (needs := r)
    rw [List.length_cons, List.range_succ_eq_map, List.map_cons, List.map_map, List.sum_cons]
    have e : (List.range r.length).map (Gt m (x :: r) ∘ Nat.succ) = (List.range r.length).map (Gt m r) := List.map_congr_left fun i _ => by
      show max 0 ((x :: r).getD (i + 1) 0 - lowT (x :: r) (i + 1 + 1)) * min (((r.length + 1 : Nat) : Int) - (((i + 1 : Nat) : Int) + 1)) m = max 0 (r.getD i 0 - lowT r (i + 1)) * min ((r.length : Int) - ((i : Int) + 1)) m
      rw [show (x :: r).getD (i + 1) 0 = r.getD i 0 from rfl, show lowT (x :: r) (i + 1 + 1) = lowT r (i + 1) from rfl, show ((r.length + 1 : Nat) : Int) - (((i + 1 : Nat) : Int) + 1) = (r.length : Int) - ((i : Int) + 1) by omega]
    rw [e, ih]
    show max 0 (x - topR r) * min (((r.length + 1 : Nat) : Int) - (((0 : Nat) : Int) + 1)) m + tT m r = max 0 (x - topR r) * min (r.length : Int) m + tT m r
    rw [show ((r.length + 1 : Nat) : Int) - (((0 : Nat) : Int) + 1) = (r.length : Int) by omega]
theorem sum_rev : ∀ xs : List Int, xs.reverse.sum = xs.sum
  | [] => rfl
  | x :: r => by
    rw [List.reverse_cons, List.sum_append, sum_rev r, List.sum_cons, List.sum_cons, List.sum_nil]
    omega
theorem range_back (G : Nat → Int) : ∀ n : Nat, ((List.range n).map fun j => G (n - 1 - j)).sum = ((List.range n).map G).sum
  | 0 => rfl
  | n + 1 => by
    have ih := range_back G n
    rw [List.range_succ_eq_map, List.map_cons, List.map_map, List.sum_cons, ← List.range_succ_eq_map, List.range_succ, List.map_append, List.sum_append]
    have e : (List.range n).map ((fun j => G (n + 1 - 1 - j)) ∘ Nat.succ) = (List.range n).map fun j => G (n - 1 - j) := List.map_congr_left fun j hj => by
      have hj := List.mem_range.mp hj
      show G (n + 1 - 1 - (j + 1)) = G (n - 1 - j)
      congr 1
      omega
    rw [e, ih]
    simp
    omega
theorem fm_sum {α β : Type} (e : α → Option β) (F : β → Int) : ∀ l : List α, ((l.filterMap e).map F).sum = (l.map fun a => (e a).elim 0 F).sum
  | [] => rfl
  | a :: l => by
    have ih := fm_sum e F l
    rw [List.filterMap_cons, List.map_cons, List.sum_cons, ← ih]
    cases e a with
    | none => simp
    | some v => simp
theorem tails_sum {m : Int} (m0 : 0 ≤ m) (needs : List Int) : ((tailsF needs).map fun v => (v.2.2.2 - v.2.2.1) * min v.2.1 m).sum = tT m needs := by
  unfold tailsF
  rw [List.map_reverse, sum_rev, fm_sum, ← Gt_sum]
  have e1 : (fun j : Nat => (tailE needs (needs.length - 2 - j)).elim 0 fun v => (v.2.2.2 - v.2.2.1) * min v.2.1 m) = fun j => Gt m needs (needs.length - 1 - 1 - j) := by
    funext j
    rw [show needs.length - 1 - 1 - j = needs.length - 2 - j by omega]
    unfold tailE Gt
    by_cases c : lowT needs (needs.length - 2 - j + 1) < needs.getD (needs.length - 2 - j) 0
    · rw [if_pos c]
      simp only [Option.elim]
      rw [show max 0 (needs.getD (needs.length - 2 - j) 0 - lowT needs (needs.length - 2 - j + 1)) = needs.getD (needs.length - 2 - j) 0 - lowT needs (needs.length - 2 - j + 1) by omega]
    · rw [if_neg c]
      simp only [Option.elim]
      rw [show max 0 (needs.getD (needs.length - 2 - j) 0 - lowT needs (needs.length - 2 - j + 1)) = 0 by omega]
      simp
  rw [e1, range_back (Gt m needs) (needs.length - 1)]
  cases hl : needs.length with
  | zero => rfl
  | succ n =>
    rw [Nat.add_sub_cancel, List.range_succ, List.map_append, List.sum_append]
    have e : Gt m needs n = 0 := by
      unfold Gt
      rw [hl, show ((n + 1 : Nat) : Int) - ((n : Int) + 1) = 0 by omega, show min (0 : Int) m = 0 by omega]
      simp
    simp [e]
/-- what the sight runner's run costs -/
theorem sight_cost_is {b : Int} {w : Nat} (hw : (w : Int) ≤ b - 1) {needs : List Int} (hx : ∀ x ∈ needs, 0 ≤ x) :
    (sightR (b - 1 - w).toNat (aheadL needs fun _ => w) needs).sum + b * startsF 0 (sightR (b - 1 - w).toNat (aheadL needs fun _ => w) needs) = sightC needs b w := by
  have t := topN_le needs
  have hN : ∀ x ∈ needs, 0 ≤ x ∧ x ≤ ((topN needs).toNat : Int) := fun x h => ⟨hx x h, by have := t.2 x h; omega⟩
  rw [sight_price hw hx]
  have e1 : upTo (fun k => gapL b k w none needs) 0 (topN needs).toNat = upTo (fun k => onN k needs + ((b + costG needs b k w) + tS (b - 1 - w) k needs)) 0 (topN needs).toNat := upTo_congr fun k h1 h2 => by
    have ne : onI needs k ≠ [] := on_ne (top_in (by omega)) (by omega)
    have c := stW_cost (k := k) (w := w) (b := b) (by omega) (row := needs)
    rw [if_neg ne] at c
    rw [gap_split, ← c, tail_one (by omega)]
    omega
  rw [e1, upTo_plus, ← sum_layers hN, upTo_plus, upTo_plus, upTo_const, tails_layers hN, ← tails_sum (by omega) needs]
  have e2 : upTo (fun k => costG needs b k w) 0 (topN needs).toNat = ((vals needs).map fun v => (v.2.2.2 - v.2.2.1) * gapC b w v.2.1).sum := layers_gaps (gapC b w) hx
  rw [e2]
  unfold sightC
  rw [show (((topN needs).toNat : Nat) : Int) = topN needs by omega, Int.mul_comm]
  omega
end Sq
/-! Sq104: the first sentence up to each tick; all seen -/
namespace Sq
open PySem PySem.Spec PyProof.Rows L2
theorem sRun_congr {many : Nat} {hd hd' : Nat → List Int} {needs needs' : List Int} : ∀ {u : Nat}, (∀ i, i < u → needs.getD i 0 = needs'.getD i 0 ∧ hd i = hd' i) → sRun many hd needs u = sRun many hd' needs' u
  | 0, _ => rfl
  | u + 1, h => by
    have ih := sRun_congr (many := many) (hd := hd) (hd' := hd') (needs := needs) (needs' := needs') (u := u) fun i hi => h i (by omega)
    obtain ⟨h1, h2⟩ := h u (by omega)
    show lookS many (sRun many hd needs u) (needs.getD u 0) (hd u) = lookS many (sRun many hd' needs' u) (needs'.getD u 0) (hd' u)
    rw [ih, h1, h2]
theorem seen_take {needs : List Int} {m w t : Nat} (ht : t < needs.length) : (sightR m (aheadL needs fun _ => w) needs).take (t + 1) = (sightR m (aheadL (needs.take (t + w + 1)) fun _ => w) (needs.take (t + w + 1))).take (t + 1) := by
  unfold sightR
  rw [← List.map_take, ← List.map_take, List.take_range, List.take_range, List.length_take, show min (t + 1) needs.length = t + 1 by omega, show min (t + 1) (min (t + w + 1) needs.length) = t + 1 by omega]
  refine List.map_congr_left fun u hu => ?_
  have hu := List.mem_range.mp hu
  rw [sRun_congr fun i hi => ⟨?_, ?_⟩]
  · rw [List.getD_eq_getElem?_getD, List.getD_eq_getElem?_getD, List.getElem?_take, if_pos (by omega)]
  · unfold aheadL
    rw [List.drop_take, List.take_take, show min w (t + w + 1 - (i + 1)) = w by omega]
theorem price_take {b : Int} (b0 : 0 ≤ b) : ∀ {xs : List Int} {p : Int} (i : Nat), (∀ x ∈ xs, 0 ≤ x) → (xs.take i).sum + b * startsF p (xs.take i) ≤ xs.sum + b * startsF p xs
  | [], p, i, _ => by simp
  | x :: r, p, 0, h => by
    have h2 := price_take b0 (xs := r) (p := x) 0 fun y hy => h y (List.mem_cons_of_mem _ hy)
    have hx := h x (by simp)
    have m : 0 ≤ b * max 0 (x - p) := Int.mul_nonneg b0 (by omega)
    show (0 : Int) + b * 0 ≤ x + r.sum + b * (max 0 (x - p) + startsF x r)
    rw [Int.mul_add]
    have h2 : (0 : Int) + b * 0 ≤ r.sum + b * startsF x r := h2
    omega
  | x :: r, p, i + 1, h => by
    have h2 := price_take b0 (xs := r) (p := x) i fun y hy => h y (List.mem_cons_of_mem _ hy)
    show x + (r.take i).sum + b * (max 0 (x - p) + startsF x (r.take i)) ≤ x + r.sum + b * (max 0 (x - p) + startsF x r)
    rw [Int.mul_add, Int.mul_add]
    omega
/-- the first sentence, up to each tick against what is seen then -/
theorem first_upto {b : Int} {w t : Nat} (hw : (w : Int) ≤ b - 1) {needs : List Int} (hx : ∀ x ∈ needs, 0 ≤ x) (ht : t < needs.length) :
    (b + 1) * (((sightR (b - 1 - w).toNat (aheadL needs fun _ => w) needs).take (t + 1)).sum + b * startsF 0 ((sightR (b - 1 - w).toNat (aheadL needs fun _ => w) needs).take (t + 1))) ≤ (2 * b - w) * layersCost (needs.take (t + w + 1)) b := by
  have h := first_sentence hw (needs := needs.take (t + w + 1)) fun x h => hx x (List.mem_of_mem_take h)
  rw [seen_take ht]
  refine Int.le_trans (mul_mono (by omega) (price_take (by omega) (t + 1) fun x hx => ?_)) h
  obtain ⟨u, _, rfl⟩ := List.mem_map.mp hx
  exact on_ge (u + 1)
/-- who sees b - 1 ticks pays the least -/
theorem all_seen {b : Int} {w : Nat} (hw : (w : Int) = b - 1) {needs : List Int} (hx : ∀ x ∈ needs, 0 ≤ x) : sightC needs b w = layersCost needs b := by
  rw [layers_vals b hx]
  unfold sightC valSum
  have e1 : ((vals needs).map fun v => (v.2.2.2 - v.2.2.1) * gapC b w v.2.1).sum = ((vals needs).map fun v => (v.2.2.2 - v.2.2.1) * min v.2.1 b).sum := by
    congr 1
    refine List.map_congr_left fun v _ => ?_
    congr 1
    unfold gapC
    split <;> omega
  have e2 : ((tailsF needs).map fun v => (v.2.2.2 - v.2.2.1) * min v.2.1 (b - 1 - w)).sum = 0 := by
    have t := topN_le needs
    have hb := tailsF_bd t.1 (fun x h => ⟨hx x h, t.2 x h⟩)
    rw [show (tailsF needs).map (fun v => (v.2.2.2 - v.2.2.1) * min v.2.1 (b - 1 - w)) = (tailsF needs).map fun _ => (0 : Int) from List.map_congr_left fun v hv => by
      have := hb v hv
      rw [show min v.2.1 (b - 1 - (w : Int)) = 0 by omega]
      simp]
    generalize tailsF needs = l
    induction l with
    | nil => rfl
    | cons a l ih => simpa using ih
  rw [e1, e2]
  omega
end Sq
/-! Sq105: the law's own need price, its prefixes, its worst rows -/
namespace Sq
open PySem PySem.Spec PyProof.Rows L2
def worstF (b : Nat) (high : Int) (gs : List Nat) : List Int := gs.flatMap fun g => high :: List.replicate (b + g) 0
theorem worst_cons {b : Nat} {high : Int} {g : Nat} {gs : List Nat} : worstF b high (g :: gs) = high :: (List.replicate (b + g) 0 ++ worstF b high gs) := by
  unfold worstF
  rw [List.flatMap_cons]
  rfl
theorem gap_zeros {b k : Int} {w : Nat} (hk : 1 ≤ k) : ∀ (n : Nat) {j : Int} {r : List Int}, gapL b k w (some j) (List.replicate n 0 ++ r) = gapL b k w (some (j + n)) r
  | 0, j, r => by simp
  | n + 1, j, r => by
    rw [List.replicate_succ, List.cons_append, gapL_some, if_neg (by omega), gap_zeros hk n]
    congr 2
    omega
theorem lay_zeros {b k : Int} (hk : 1 ≤ k) : ∀ (n : Nat) {j : Int} {r : List Int}, layC b k (some j) (List.replicate n 0 ++ r) = layC b k (some (j + n)) r
  | 0, j, r => by simp
  | n + 1, j, r => by
    rw [List.replicate_succ, List.cons_append]
    show (if k ≤ 0 then _ else layC b k (some (j + 1)) (List.replicate n 0 ++ r)) = _
    rw [if_neg (by omega), lay_zeros hk n]
    congr 2
    omega
theorem on_zeros {k : Int} (hk : 1 ≤ k) : ∀ (n : Nat) {r : List Int}, onN k (List.replicate n 0 ++ r) = onN k r
  | 0, r => by simp
  | n + 1, r => by
    rw [List.replicate_succ, List.cons_append]
    show (if k ≤ 0 then (1 : Int) else 0) + onN k (List.replicate n 0 ++ r) = _
    rw [if_neg (by omega), on_zeros hk n]
    omega
theorem worst_gap {b w : Nat} {k high : Int} (hw : w + 1 ≤ b) (hk : 1 ≤ k) (hh : k ≤ high) : ∀ {gs : List Nat} {j : Int}, (b : Int) ≤ j → gapL b k w (some j) (worstF b high gs) = gs.length * (2 * (b : Int) - w) + ((b : Int) - 1 - w)
  | [], j, h => by
    show min j ((b : Int) - 1 - w) = _
    simp
    omega
  | g :: gs, j, h => by
    have ih := worst_gap hw hk hh (gs := gs) (j := 0 + ((b + g : Nat) : Int)) (by omega)
    rw [worst_cons, gapL_some, if_pos hh, gap_zeros hk, ih, show gapC b w j = 2 * (b : Int) - 1 - w from if_neg (by omega), List.length_cons, Int.natCast_add, Int.add_mul]
    simp
    omega
theorem worst_gap0 {b w : Nat} {k high : Int} (hw : w + 1 ≤ b) (hk : 1 ≤ k) (hh : k ≤ high) {gs : List Nat} (h0 : gs ≠ []) : gapL b k w none (worstF b high gs) = gs.length * (2 * (b : Int) - w) := by
  cases gs with
  | nil => exact absurd rfl h0
  | cons g gs =>
    have ih := worst_gap hw hk hh (gs := gs) (j := 0 + ((b + g : Nat) : Int)) (by omega)
    rw [worst_cons, gapL_none, if_pos hh, gap_zeros hk, ih, List.length_cons, Int.natCast_add, Int.add_mul]
    simp
    omega
theorem worst_lay {b : Nat} {k high : Int} (hk : 1 ≤ k) (hh : k ≤ high) : ∀ {gs : List Nat} {j : Int}, (b : Int) ≤ j → onN k (worstF b high gs) + layC b k (some j) (worstF b high gs) = gs.length * (1 + (b : Int))
  | [], j, h => by
    show (0 : Int) + 0 = _
    simp
  | g :: gs, j, h => by
    have ih := worst_lay (b := b) hk hh (gs := gs) (j := 0 + ((b + g : Nat) : Int)) (by omega)
    rw [worst_cons]
    show (if k ≤ high then (1 : Int) else 0) + onN k _ + (if k ≤ high then min j (b : Int) + layC b k (some 0) _ else _) = _
    rw [if_pos hh, if_pos hh, lay_zeros hk, on_zeros hk, List.length_cons, show ((gs.length + 1 : Nat) : Int) * (1 + (b : Int)) = gs.length * (1 + (b : Int)) + (1 + (b : Int)) by rw [Int.natCast_add, Int.add_mul]; simp, ← ih]
    omega
theorem worst_lay0 {b : Nat} {k high : Int} (hk : 1 ≤ k) (hh : k ≤ high) {gs : List Nat} (h0 : gs ≠ []) : onN k (worstF b high gs) + layC b k none (worstF b high gs) = gs.length * (1 + (b : Int)) := by
  cases gs with
  | nil => exact absurd rfl h0
  | cons g gs =>
    have ih := worst_lay (b := b) hk hh (gs := gs) (j := 0 + ((b + g : Nat) : Int)) (by omega)
    rw [worst_cons]
    show (if k ≤ high then (1 : Int) else 0) + onN k _ + (if k ≤ high then (b : Int) + layC b k (some 0) _ else _) = _
    rw [if_pos hh, if_pos hh, lay_zeros hk, on_zeros hk, List.length_cons, show ((gs.length + 1 : Nat) : Int) * (1 + (b : Int)) = gs.length * (1 + (b : Int)) + (1 + (b : Int)) by rw [Int.natCast_add, Int.add_mul]; simp, ← ih]
    omega
theorem worst_mem {b : Nat} {high : Int} (h0 : 0 ≤ high) {gs : List Nat} : ∀ x ∈ worstF b high gs, 0 ≤ x ∧ x ≤ high := fun x hx => by
  obtain ⟨g, _, h⟩ := List.mem_flatMap.mp hx
  rcases List.mem_cons.mp h with rfl | h
  · exact ⟨h0, Int.le_refl _⟩
  · have := List.eq_of_mem_replicate h
    omega
theorem worst_top {b : Nat} {high : Int} (h0 : 0 ≤ high) {gs : List Nat} (hg : gs ≠ []) : topN (worstF b high gs) = high := by
  have t := topN_le (worstF b high gs)
  have h1 := topN_le' h0 fun x h => (worst_mem h0 (b := b) (gs := gs) x h).2
  cases gs with
  | nil => exact absurd rfl hg
  | cons g gs =>
    have := t.2 high (by rw [worst_cons]; simp)
    omega
/-- on the worst rows it pays just so much -/
theorem worst_price {b w : Nat} {high : Int} (hw : w + 1 ≤ b) (h0 : 1 ≤ high) {gs : List Nat} (hg : gs ≠ []) :
    (sightR ((b : Int) - 1 - w).toNat (aheadL (worstF b high gs) fun _ => w) (worstF b high gs)).sum + b * startsF 0 (sightR ((b : Int) - 1 - w).toNat (aheadL (worstF b high gs) fun _ => w) (worstF b high gs)) = high * (gs.length * (2 * (b : Int) - w)) := by
  rw [sight_price (by omega) (fun x h => (worst_mem (by omega) x h).1), worst_top (by omega) hg, upTo_congr (g := fun _ => gs.length * (2 * (b : Int) - w)) (fun k h1 h2 => worst_gap0 hw (by omega) (by omega) hg), upTo_const]
  congr 1
  omega
theorem worst_least {b : Nat} {high : Int} (h0 : 1 ≤ high) {gs : List Nat} (hg : gs ≠ []) : layersCost (worstF b high gs) b = high * (gs.length * (1 + (b : Int))) := by
  have hN : ∀ x ∈ worstF b high gs, 0 ≤ x ∧ x ≤ ((high.toNat : Nat) : Int) := fun x h => by have := worst_mem (by omega) x h; omega
  rw [lay_eq (by omega) (M := high.toNat) (by rw [worst_top (by omega) hg]; omega), sum_layers hN, ← upTo_plus, upTo_congr (g := fun _ => gs.length * (1 + (b : Int))) (fun k h1 h2 => worst_lay0 (by omega) (by omega) hg), upTo_const]
  congr 1
  omega
def F__law_prefixes_right : FS := ⟨[.val, .val, .val, .val], fun ds R => ∃ (needs : List Int) (b : Int) (w : Int), ds = [.tuple (needs.map .int), .tuple ((sightR (b - 1 - w).toNat (aheadL needs fun _ => w.toNat) needs).map .int), .int b, .int w] ∧ (needs.length ≤ 100 ∧ (∀ x ∈ needs, 0 ≤ x ∧ x ≤ 1000) ∧ 0 ≤ w ∧ w ≤ b - 1 ∧ b ≤ 1000 ∧ R 0 (.bool true) [])⟩
theorem law_prefixes_right_ms : F__law_prefixes_right.ms = [.val, .val, .val, .val] := rfl
theorem law_prefixes_right_sp {zz0 : List D} {zz1 : List D} {b : Int} {w : Int} {R : Nat → D → List D → Prop} : F__law_prefixes_right.sp [.tuple zz0, .tuple zz1, .int b, .int w] R = (∃ (needs : List Int), zz0 = (needs.map .int) ∧ zz1 = ((sightR (b - 1 - w).toNat (aheadL needs fun _ => w.toNat) needs).map .int) ∧ (needs.length ≤ 100 ∧ (∀ x ∈ needs, 0 ≤ x ∧ x ≤ 1000) ∧ 0 ≤ w ∧ w ≤ b - 1 ∧ b ≤ 1000 ∧ R 0 (.bool true) [])) := by
  apply propext
  constructor
  · rintro ⟨needs, u'b, u'w, e, h⟩
    cases e
    exact ⟨needs, rfl, rfl, h⟩
  · rintro ⟨needs, rfl, rfl, h⟩
    exact ⟨needs, b, w, rfl, h⟩
def F__law_worst : FS := ⟨[.io 2, .val], fun ds R => ∃ (N : Nat) (src : D) (b : Int), ds = [src, .int b] ∧ (Src N src ∧ N ≤ 2 ^ 50 ∧ 1 ≤ b ∧ b ≤ 900 ∧ ∀ (gs : List Nat) (high : Int) (src' : D), gs ≠ [] → gs.length ≤ 5 → (∀ g ∈ gs, g ≤ 3) → 1 ≤ high → high ≤ 3 → Src (N + 10) src' → R 0 (.tuple [.tuple ((worstF b.toNat high gs).map .int), .int (gs.length : Nat), .int high]) [src'])⟩
theorem law_worst_ms : F__law_worst.ms = [.io 2, .val] := rfl
theorem law_worst_sp {src : D} {b : Int} {R : Nat → D → List D → Prop} : F__law_worst.sp [src, .int b] R = (∃ (N : Nat), (Src N src ∧ N ≤ 2 ^ 50 ∧ 1 ≤ b ∧ b ≤ 900 ∧ ∀ (gs : List Nat) (high : Int) (src' : D), gs ≠ [] → gs.length ≤ 5 → (∀ g ∈ gs, g ≤ 3) → 1 ≤ high → high ≤ 3 → Src (N + 10) src' → R 0 (.tuple [.tuple ((worstF b.toNat high gs).map .int), .int (gs.length : Nat), .int high]) [src'])) := by
  apply propext
  constructor
  · rintro ⟨N, u'src, u'b, e, h⟩
    cases e
    exact ⟨N, h⟩
  · rintro ⟨N, h⟩
    exact ⟨N, src, b, rfl, h⟩
def F__law_need_price : FS := ⟨[.val, .val], fun ds R => ∃ (xs : List Int) (b : Int), ds = [.tuple (xs.map .int), .int b] ∧ (xs.length ≤ 1000 ∧ (∀ x ∈ xs, 0 ≤ x ∧ x ≤ 1000) ∧ 0 ≤ b ∧ b ≤ 1000 ∧ R 0 (.int (xs.sum + b * startsF 0 xs)) [])⟩
theorem law_need_price_ms : F__law_need_price.ms = [.val, .val] := rfl
theorem law_need_price_sp {zz0 : List D} {b : Int} {R : Nat → D → List D → Prop} : F__law_need_price.sp [.tuple zz0, .int b] R = (∃ (xs : List Int), zz0 = (xs.map .int) ∧ (xs.length ≤ 1000 ∧ (∀ x ∈ xs, 0 ≤ x ∧ x ≤ 1000) ∧ 0 ≤ b ∧ b ≤ 1000 ∧ R 0 (.int (xs.sum + b * startsF 0 xs)) [])) := by
  apply propext
  constructor
  · rintro ⟨xs, u'b, e, h⟩
    cases e
    exact ⟨xs, rfl, h⟩
  · rintro ⟨xs, rfl, h⟩
    exact ⟨xs, b, rfl, h⟩
/-! _law_need_price -/
def q__law_need_price : WS := (wSeq (wRet (wOp oAdd (wCons (wEx (wOp oSum (wCons (wSl 0) wNil))) (wCons (wEx (wOp oMul (wCons (wSl 1) (wCons (wEx (wCall F__law_starts (wCons (wSl 0) wNil))) wNil)))) wNil)))) wNext)
/-! _law_prefixes_right -/
def q__law_prefixes_right_1 : WS := (wSeq (wAsg (wFz (wCall F__law_need_price (wCons (wEx (wFz (wCut (wSl 1) wP0 (wP1 (wOp oAdd (wCons (wSl 4) (wCons (wEx (wC (.int 1))) wNil))))))) (wCons (wSl 2) wNil)))) (wNmG 5)) (wSeq (wIf (wT (wOp oGt (wCons (wEx (wOp oMul (wCons (wEx (wOp oAdd (wCons (wSl 2) (wCons (wEx (wC (.int 1))) wNil)))) (wCons (wSl 5) wNil)))) (wCons (wEx (wOp oMul (wCons (wEx (wOp oSub (wCons (wEx (wOp oMul (wCons (wEx (wC (.int 2))) (wCons (wSl 2) wNil)))) (wCons (wSl 3) wNil)))) (wCons (wEx (wCall F__law_layers_cost (wCons (wEx (wFz (wCut (wSl 0) wP0 (wP1 (wOp oAdd (wCons (wEx (wOp oAdd (wCons (wSl 4) (wCons (wSl 3) wNil)))) (wCons (wEx (wC (.int 1))) wNil))))))) (wCons (wSl 2) wNil)))) wNil)))) wNil)))) (wSeq (wRet (wC (.bool false))) wNext) wNext) wNext))
def q__law_prefixes_right : WS := (wSeq (wFor (wiRange1 (wOp oLen (wCons (wSl 0) wNil))) (wNmG 4) q__law_prefixes_right_1) (wSeq (wRet (wC (.bool true))) wNext))
/-! _law_worst -/
def q__law_worst_1 : WS := (wSeq (wAsg (wOp oAdd (wCons (wEx (wOp oAdd (wCons (wSl 2) (wCons (wEx (wTup (wCons (wEx (wVar 4)) wNil))) wNil)))) (wCons (wEx (wOp oMulT (wCons (wEx (wTup (wCons (wEx (wC (.int 0))) wNil))) (wCons (wEx (wOp oAdd (wCons (wSl 1) (wCons (wEx (wCall F__law_pick (wCons (wSl 0) (wCons (wEx (wC (.int 4))) wNil)))) wNil)))) wNil)))) wNil))) (wNmG 2)) wNext)
def q__law_worst : WS := (wSeq (wPar [2, 3, 4] (wCons (wEx (wTup wNil)) (wCons (wEx (wOp oAdd (wCons (wEx (wC (.int 1))) (wCons (wEx (wCall F__law_pick (wCons (wSl 0) (wCons (wEx (wC (.int 5))) wNil)))) wNil)))) (wCons (wEx (wOp oAdd (wCons (wEx (wC (.int 1))) (wCons (wEx (wCall F__law_pick (wCons (wSl 0) (wCons (wEx (wC (.int 3))) wNil)))) wNil)))) wNil)))) (wSeq (wFor (wiRange1 (wVar 3)) (wNmG 5) q__law_worst_1) (wSeq (wRet (wTup (wCons (wEx (wVar 2)) (wCons (wEx (wVar 3)) (wCons (wEx (wVar 4)) wNil))))) wNext)))
local macro_rules | `(tactic| walk_at "z18") => `(tactic| simp only [x_wC, x_wEx, x_wNil, x_wCons, x_wOp, x_wT, x_wAndT, x_wOrT, x_wNotT, x_wIte, x_wAndV, x_wOrV, x_wNotV, x_wChain, x_wTru, x_wFz, x_wTup, x_wLst, x_wStar, x_wP0, x_wP1, x_wCut, x_wNext, x_wBrk, x_wCnt, x_wNever, x_wSeq, x_wNm, y_gn, y_gc, y_tp, x_wNmG, x_wAsg, x_wExpr, x_wRet, x_wRetN, x_wIf, x_wFor, x_wComp, x_wYes, x_wiSeq, x_wiEnum, x_wiRange1, x_wiRange2, y_par, y_al0, y_alC, y_app, x_wDisp, x_wDNew, x_wDNewT, x_wCall, x_wiZip, x_tmp, x_fs0, x_fs1, y_add, y_addS, y_addL, y_addT, y_sub, y_mul, y_rep, y_div, y_mod, y_pow, y_eq, y_eqS, y_eqL, y_eqT, y_ne, y_neS, y_neL, y_neT, y_lt, y_le, y_gt, y_ge, y_isN, y_notN, y_nNone, y_nInt, y_nStr, y_nTup, y_nLst, y_lenL, y_lenT, y_lenS, y_abs, y_max, y_min, y_int, y_intB, y_tupL, y_tupT, y_lstL, y_lstT, y_repr, y_neg, y_ixL, y_ixT, y_cutL, y_cutT, y_rev, y_starT, y_starL, y_starKT, y_starKL, y_itT, y_itKT, y_plain, y_itS, y_itKS, y_var, y_own, y_mv, y_seen, y_seenL, y_fetS, y_sl, y_tm0, y_tmS, y_tmI, y_tmT, y_tmX, y_tmN, y_tn0, y_tnC, y_mapS, y_io0, y_ioV, y_ioB, io_ex, y_nx, y_rt, y_fit0, y_fitT, y_fitN, y_fitX, y_fitS, y_setE0, y_setE1, y_pl, y_un, y_put, y_pop1, List.getElem?_cons_zero, List.getElem?_cons_succ, List.set_cons_zero, List.set_cons_succ, Option.some.injEq, PyData.int.injEq, PyData.bool.injEq, PyData.tuple.injEq, PyData.list.injEq, Prod.mk.injEq, Md.own.injEq, exists_eq_left', exists_eq_left, exists_eq', exists_eq, true_and, and_true, and_self, List.length_cons, List.length_nil, wipeE, restE, decide_eq_true_eq, Bool.not_eq_true', decide_eq_false_iff_not, Nat.reduceAdd, Nat.reduceLT, Nat.reduceLeDiff, Nat.zero_le, Nat.le_refl, waOf, List.map_cons, List.map_nil, Nat.zero_add, List.nil_append, Nat.lt_add_one, y_lfI, y_lfS, y_lfT, y_lfN, y_lfB, or_true, Nat.reduceSub, Nat.add_one_sub_one, List.map_append, List.length_map, exists_and_left, ↓reduceIte, Nat.lt_irrefl, y_po0, y_poS, y_poN, y_ou0, y_ouI, y_ouV, y_ouB, Bool.true_eq_false, Bool.false_eq_true, reduceCtorEq, a_nil, a_cons, a_vt, a_vs, a_is, a_bs, a_bt, a_v0, a_vl, a_vi, a_i0, a_b0, a_bl, y_bind, ok_0, ok_1, ok_2, ok_3, ok_4, ok_5, ok_6, ok_i1, ok_i2, ok_i3, ok_i4, ok_i5, ok_i6, Option.getD_some, Option.getD_none, y_appB, at_0, at_1, at_2, at_3, y_chL, y_chT, not_true_eq_false, not_false_eq_true, true_or, y_pop0, F__law_source, F__law_pick, F__law_of, F__law_draw_needs, F__law_gaps, source_ms, source_sp, pick_ms, pick_sp, of_ms, of_sp, draw_ms, draw_sp, lgaps_ms, lgaps_sp, y_ext, y_all, y_any, closed_ms, closed_sp, lsf_ms, lsf_sp, lc_ms, lc_sp, y_sumL, y_sumT, x_wIsi, x_wGlo, pl_N, pl_B, pl_I, pl_S, pl_L, pl_T, pl_D0, i_Nint, i_Nbool, i_Ntuple, i_Nstr, i_Nlist, i_Ndict, i_Bint, i_Bbool, i_Btuple, i_Bstr, i_Blist, i_Bdict, i_Iint, i_Ibool, i_Ituple, i_Istr, i_Ilist, i_Idict, i_Sint, i_Sbool, i_Stuple, i_Sstr, i_Slist, i_Sdict, i_Lint, i_Lbool, i_Ltuple, i_Lstr, i_Llist, i_Ldict, i_Tint, i_Tbool, i_Ttuple, i_Tstr, i_Tlist, i_Tdict, i_Dint, i_Dbool, i_Dtuple, i_Dstr, i_Dlist, i_Ddict, y_in, y_nin, y_ge2, y_ge2T, y_maxA, y_minA, y_mulT, kx_c, kx_v, kx_add, kx_sub, kx_it, kc_0, kx_i, kx_s, ko_add, ko_sub, y_plA, y_plB, y_plV, y_putA, y_putV, x_wShare, y_ixCD, y_din, y_dnin, wForK, wCompK, x_wLk, x_wLkS, x_wiKeys, y_own0, y_dictAt, x_disp1, keyOk_i, keyOk_s, y_listK, y_valsK, y_itemsK, plain_R, keys_R, vals_R, look_R, has_R, y_neE, y_addK, y_neDict, x_wLC, x_wiRange3, x_wIdx, y_isL, y_index, x_wiKeysB1, endX, x_wRaise, x_wRetX, x_wExpX, x_wSetX, x_wCX, x_wTryR, y_inTp, y_ninTp, y_eqEt, x_wMeth, y_m1, y_obP, y_fch, isFk_self, x_wMake, x_wCallT, y_lifN, y_lifT, y_lifS, y_lifV, y_lifB, y_plF, y_unF, y_putF, y_addF, x_wPopI, y_bs, y_ms, y_tk0, y_tkS, Option.map_some, List.cons_append, valleys_ms, valleys_sp, law_valleys_ms, law_valleys_sp, is_number_ms, is_number_sp, law_is_number_ms, law_is_number_sp, is_form_ms, is_form_sp, is_valley_ms, is_valley_sp, judge_need_paper_ms, judge_need_paper_sp, law_paper_fault_ms, law_paper_fault_sp, need_paper_ms, need_paper_sp, worth_at_ms, worth_at_sp, low_of_ms, low_of_sp, high_of_ms, high_of_sp, held_slope_ms, held_slope_sp, sum_of_ms, sum_of_sp, held_worth_ms, held_worth_sp, held_ms, held_sp, work_after_ms, work_after_sp, works_of_ms, works_of_sp, least_costs_ms, least_costs_sp, least_cost_ms, least_cost_sp, law_draw_slots_ms, law_draw_slots_sp, law_great_slots_ms, law_great_slots_sp, law_slot_costs_ms, law_slot_costs_sp, law_going_ms, law_going_sp, law_work_told_ms, law_work_told_sp, law_low_ms, law_low_sp, law_high_ms, law_high_sp, ended_ms, ended_sp, best_row_ms, best_row_sp, law_starts_ms, law_starts_sp, law_price_ms, law_price_sp, law_least_cost_ms, law_least_cost_sp, plain_slot_ms, plain_slot_sp, law_all_rows_ms, law_all_rows_sp, law_need_costs_ms, law_need_costs_sp, least_by_layers_ms, least_by_layers_sp, steps_behind_ms, steps_behind_sp, least_by_steps_ms, least_by_steps_sp, law_worths_ms, law_worths_sp, law_some_work_ms, law_some_work_sp, law_added_ms, law_added_sp, law_held_ms, law_held_sp, slot_cost_ms, slot_cost_sp, serves_ms, serves_sp, starts_ms, starts_sp, stops_ms, stops_sp, running_cost_ms, running_cost_sp, row_cost_ms, row_cost_sp, law_some_row_ms, law_some_row_sp, least_numbers_ms, least_numbers_sp, bound_of_ms, bound_of_sp, law_bound_ms, law_bound_sp, best_by_layers_ms, best_by_layers_sp, law_best_row_ms, law_best_row_sp, span_of_ms, span_of_sp, prices_for_ms, prices_for_sp, paper_of_ms, paper_of_sp, is_integer_ms, is_integer_sp, are_integers_ms, are_integers_sp, first_where_ms, first_where_sp, is_least_ms, is_least_sp, judge_paper_ms, judge_paper_sp, law_price_fault_ms, law_price_fault_sp, law_need_fault_ms, law_need_fault_sp, row_layers_ms, row_layers_sp, SightRunner_init_ms, SightRunner_init_sp, SightRunner_look_ms, SightRunner_look_sp, run_sight_ms, run_sight_sp, sight_row_ms, sight_row_sp, law_mixed_ms, law_mixed_sp, law_some_sight_ms, law_some_sight_sp, law_sight_row_ms, law_sight_row_sp, law_shown_row_ms, law_shown_row_sp, LazyRunner_init_ms, LazyRunner_init_sp, LazyRunner_look_ms, LazyRunner_look_sp, run_lazy_ms, run_lazy_sp, lazy_account_ms, lazy_account_sp, lazy_row_ms, lazy_row_sp, law_bounds_ms, law_bounds_sp, law_lazy_ms, law_lazy_sp, law_far_ms, law_far_sp, law_dear_ms, law_dear_sp, law_draw_slots0_ms, law_draw_slots0_sp, law_between_ms, law_between_sp, tails_ms, tails_sp, sight_cost_ms, sight_cost_sp, sight_room_ms, sight_room_sp, law_prefixes_right_ms, law_prefixes_right_sp, law_worst_ms, law_worst_sp, law_need_price_ms, law_need_price_sp])
theorem law__law_need_price (ds : List D) (R : Nat → D → List D → Prop) (h : F__law_need_price.sp ds R) : q__law_need_price (entE [.val, .val] ds ++ List.replicate 0 none) (endK [.val, .val] R) := by
  obtain ⟨xs, b, rfl, hl, hx, b0, b1, hR⟩ := h
  have szl : sizeLine = 16777216 := sizeLine_eq
  unfold q__law_need_price
  show (wSeq _ _) [some (.own 0, .tuple (xs.map .int)), some (.own 0, .int b)] _
  have hs := starts_bd (T := 1000) (by decide) (p := 0) (by decide) hx
  walk_at "z18"
  exact ⟨xs, rfl, by omega, mul_small ⟨by omega, by omega⟩ ⟨by omega, by omega⟩, hR⟩
theorem law__law_prefixes_right (ds : List D) (R : Nat → D → List D → Prop) (h : F__law_prefixes_right.sp ds R) : q__law_prefixes_right (entE [.val, .val, .val, .val] ds ++ List.replicate 2 none) (endK [.val, .val, .val, .val] R) := by
  obtain ⟨needs, b, w, rfl, hl, hx, w0, w1, b1, hR⟩ := h
  have szl : sizeLine = 16777216 := sizeLine_eq
  unfold q__law_prefixes_right
  show (wSeq _ _) [some (.own 0, .tuple (needs.map .int)), some (.own 0, .tuple ((sightR (b - 1 - w).toNat (aheadL needs fun _ => w.toNat) needs).map .int)), some (.own 0, .int b), some (.own 0, .int w), none, none] _
  obtain ⟨v, hv⟩ : ∃ v : Nat, w = (v : Int) := ⟨w.toNat, by omega⟩
  subst hv
  simp only [Int.toNat_natCast] at *
  obtain ⟨row, hrow⟩ : ∃ row, row = sightR (b - 1 - v).toNat (aheadL needs fun _ => v) needs := ⟨_, rfl⟩
  rw [← hrow]
  have hr : ∀ x ∈ row, 0 ≤ x ∧ x ≤ 1000 := fun x h => by
    rw [hrow] at h
    obtain ⟨u, hu, rfl⟩ := List.mem_map.mp h
    have hu := List.mem_range.mp hu
    have h1 := on_ge (many := (b - 1 - v).toNat) (hd := aheadL needs fun _ => v) (needs := needs) (u + 1)
    have h2 := on_top (many := (b - 1 - v).toNat) (hd := aheadL needs fun _ => v) (needs := needs) (u + 1) (by omega)
    have h3 := topN_le' (row := needs) (c := 1000) (by decide) fun x h => (hx x h).2
    omega
  have hrl : row.length = needs.length := by rw [hrow]; simp [sightR]
  walk_at "z18"
  refine ⟨⟨by omega, by omega⟩, by omega, ?_⟩
  rw [Int.toNat_natCast]
  refine for_laps0 (fun _ e => ∃ x4 x5, e = [some (.own 0, .tuple (needs.map .int)), some (.own 0, .tuple (row.map .int)), some (.own 0, .int b), some (.own 0, .int v), x4, x5]) ⟨_, _, rfl⟩ ?_ ?_
  · rintro t e ht ⟨x4, x5, rfl⟩ Z hZ
    have hf := first_upto (b := b) (w := v) (t := t) (by omega) (fun x h => (hx x h).1) ht
    rw [← hrow] at hf
    have hrt : ∀ x ∈ row.take (t + 1), 0 ≤ x ∧ x ≤ 1000 := fun x h => hr x (List.mem_of_mem_take h)
    have hnt : ∀ x ∈ needs.take (t + v + 1), 0 ≤ x ∧ x ≤ 1000 := fun x h => hx x (List.mem_of_mem_take h)
    have hs := starts_bd (T := 1000) (by decide) (p := 0) (by decide) hrt
    have l1 : (row.take (t + 1)).length ≤ 100 := by rw [List.length_take]; omega
    have l2 : (needs.take (t + v + 1)).length ≤ 100 := by rw [List.length_take]; omega
    walk_at "z18"
    unfold q__law_prefixes_right_1
    have c1 : cut (row.map PyData.int) none (some ((t : Int) + 1)) = (row.take (t + 1)).map PyData.int := by
      rw [cut_take _ (by omega), show ((t : Int) + 1).toNat = t + 1 by omega, List.map_take]
    have c2 : cut (needs.map PyData.int) none (some ((t : Int) + (v : Int) + 1)) = (needs.take (t + v + 1)).map PyData.int := by
      rw [cut_take _ (by omega), show ((t : Int) + (v : Int) + 1).toNat = t + v + 1 by omega, List.map_take]
    have m1 : 0 ≤ b * startsF 0 (row.take (t + 1)) := Int.mul_nonneg (by omega) hs.1
    have m2 : b * startsF 0 (row.take (t + 1)) ≤ 1000 * startsF 0 (row.take (t + 1)) := Int.mul_le_mul_of_nonneg_right b1 hs.1
    have m3 := sum_ab (c := 1000) (by decide) (l := row.take (t + 1)) fun x h => by have := hrt x h; omega
    have m4 := layers_bd (row := needs.take (t + v + 1)) (b := b) (c := 1000) (by omega) (by decide) hnt
    have m5 : ((needs.take (t + v + 1)).length : Int) * b ≤ 100 * b := Int.mul_le_mul_of_nonneg_right (by omega) (by omega)
    simp only [x_wC, x_wEx, x_wNil, x_wCons, x_wOp, x_wT, x_wAndT, x_wOrT, x_wNotT, x_wIte, x_wAndV, x_wOrV, x_wNotV, x_wChain, x_wTru, x_wFz, x_wTup, x_wLst, x_wStar, x_wP0, x_wP1, x_wCut, x_wNext, x_wBrk, x_wCnt, x_wNever, x_wSeq, x_wNm, y_gn, y_gc, y_tp, x_wNmG, x_wAsg, x_wExpr, x_wRet, x_wRetN, x_wIf, x_wFor, x_wComp, x_wYes, x_wiSeq, x_wiEnum, x_wiRange1, x_wiRange2, y_par, y_al0, y_alC, y_app, x_wDisp, x_wDNew, x_wDNewT, x_wCall, x_wiZip, x_tmp, x_fs0, x_fs1, y_add, y_addS, y_addL, y_addT, y_sub, y_mul, y_rep, y_div, y_mod, y_pow, y_eq, y_eqS, y_eqL, y_eqT, y_ne, y_neS, y_neL, y_neT, y_lt, y_le, y_gt, y_ge, y_isN, y_notN, y_nNone, y_nInt, y_nStr, y_nTup, y_nLst, y_lenL, y_lenT, y_lenS, y_abs, y_max, y_min, y_int, y_intB, y_tupL, y_tupT, y_lstL, y_lstT, y_repr, y_neg, y_ixL, y_ixT, y_cutL, y_cutT, y_rev, y_starT, y_starL, y_starKT, y_starKL, y_itT, y_itKT, y_plain, y_itS, y_itKS, y_var, y_own, y_mv, y_seen, y_seenL, y_fetS, y_sl, y_tm0, y_tmS, y_tmI, y_tmT, y_tmX, y_tmN, y_tn0, y_tnC, y_mapS, y_io0, y_ioV, y_ioB, io_ex, y_nx, y_rt, y_fit0, y_fitT, y_fitN, y_fitX, y_fitS, y_setE0, y_setE1, y_pl, y_un, y_put, y_pop1, List.getElem?_cons_zero, List.getElem?_cons_succ, List.set_cons_zero, List.set_cons_succ, Option.some.injEq, PyData.int.injEq, PyData.bool.injEq, PyData.tuple.injEq, PyData.list.injEq, Prod.mk.injEq, Md.own.injEq, exists_eq_left', exists_eq_left, exists_eq', exists_eq, true_and, and_true, and_self, List.length_cons, List.length_nil, wipeE, restE, decide_eq_true_eq, Bool.not_eq_true', decide_eq_false_iff_not, Nat.reduceAdd, Nat.reduceLT, Nat.reduceLeDiff, Nat.zero_le, Nat.le_refl, waOf, List.map_cons, List.map_nil, Nat.zero_add, List.nil_append, Nat.lt_add_one, y_lfI, y_lfS, y_lfT, y_lfN, y_lfB, or_true, Nat.reduceSub, Nat.add_one_sub_one, List.map_append, List.length_map, exists_and_left, ↓reduceIte, Nat.lt_irrefl, y_po0, y_poS, y_poN, y_ou0, y_ouI, y_ouV, y_ouB, Bool.true_eq_false, Bool.false_eq_true, reduceCtorEq, a_nil, a_cons, a_vt, a_vs, a_is, a_bs, a_bt, a_v0, a_vl, a_vi, a_i0, a_b0, a_bl, y_bind, ok_0, ok_1, ok_2, ok_3, ok_4, ok_5, ok_6, ok_i1, ok_i2, ok_i3, ok_i4, ok_i5, ok_i6, Option.getD_some, Option.getD_none, y_appB, at_0, at_1, at_2, at_3, y_chL, y_chT, not_true_eq_false, not_false_eq_true, true_or, y_pop0, F__law_source, F__law_pick, F__law_of, F__law_draw_needs, F__law_gaps, source_ms, source_sp, pick_ms, pick_sp, of_ms, of_sp, draw_ms, draw_sp, lgaps_ms, lgaps_sp, y_ext, y_all, y_any, closed_ms, closed_sp, lsf_ms, lsf_sp, lc_ms, lc_sp, y_sumL, y_sumT, x_wIsi, x_wGlo, pl_N, pl_B, pl_I, pl_S, pl_L, pl_T, pl_D0, i_Nint, i_Nbool, i_Ntuple, i_Nstr, i_Nlist, i_Ndict, i_Bint, i_Bbool, i_Btuple, i_Bstr, i_Blist, i_Bdict, i_Iint, i_Ibool, i_Ituple, i_Istr, i_Ilist, i_Idict, i_Sint, i_Sbool, i_Stuple, i_Sstr, i_Slist, i_Sdict, i_Lint, i_Lbool, i_Ltuple, i_Lstr, i_Llist, i_Ldict, i_Tint, i_Tbool, i_Ttuple, i_Tstr, i_Tlist, i_Tdict, i_Dint, i_Dbool, i_Dtuple, i_Dstr, i_Dlist, i_Ddict, y_in, y_nin, y_ge2, y_ge2T, y_maxA, y_minA, y_mulT, kx_c, kx_v, kx_add, kx_sub, kx_it, kc_0, kx_i, kx_s, ko_add, ko_sub, y_plA, y_plB, y_plV, y_putA, y_putV, x_wShare, y_ixCD, y_din, y_dnin, wForK, wCompK, x_wLk, x_wLkS, x_wiKeys, y_own0, y_dictAt, x_disp1, keyOk_i, keyOk_s, y_listK, y_valsK, y_itemsK, plain_R, keys_R, vals_R, look_R, has_R, y_neE, y_addK, y_neDict, x_wLC, x_wiRange3, x_wIdx, y_isL, y_index, x_wiKeysB1, endX, x_wRaise, x_wRetX, x_wExpX, x_wSetX, x_wCX, x_wTryR, y_inTp, y_ninTp, y_eqEt, x_wMeth, y_m1, y_obP, y_fch, isFk_self, x_wMake, x_wCallT, y_lifN, y_lifT, y_lifS, y_lifV, y_lifB, y_plF, y_unF, y_putF, y_addF, x_wPopI, y_bs, y_ms, y_tk0, y_tkS, Option.map_some, List.cons_append, valleys_ms, valleys_sp, law_valleys_ms, law_valleys_sp, is_number_ms, is_number_sp, law_is_number_ms, law_is_number_sp, is_form_ms, is_form_sp, is_valley_ms, is_valley_sp, judge_need_paper_ms, judge_need_paper_sp, law_paper_fault_ms, law_paper_fault_sp, need_paper_ms, need_paper_sp, worth_at_ms, worth_at_sp, low_of_ms, low_of_sp, high_of_ms, high_of_sp, held_slope_ms, held_slope_sp, sum_of_ms, sum_of_sp, held_worth_ms, held_worth_sp, held_ms, held_sp, work_after_ms, work_after_sp, works_of_ms, works_of_sp, least_costs_ms, least_costs_sp, least_cost_ms, least_cost_sp, law_draw_slots_ms, law_draw_slots_sp, law_great_slots_ms, law_great_slots_sp, law_slot_costs_ms, law_slot_costs_sp, law_going_ms, law_going_sp, law_work_told_ms, law_work_told_sp, law_low_ms, law_low_sp, law_high_ms, law_high_sp, ended_ms, ended_sp, best_row_ms, best_row_sp, law_starts_ms, law_starts_sp, law_price_ms, law_price_sp, law_least_cost_ms, law_least_cost_sp, plain_slot_ms, plain_slot_sp, law_all_rows_ms, law_all_rows_sp, law_need_costs_ms, law_need_costs_sp, least_by_layers_ms, least_by_layers_sp, steps_behind_ms, steps_behind_sp, least_by_steps_ms, least_by_steps_sp, law_worths_ms, law_worths_sp, law_some_work_ms, law_some_work_sp, law_added_ms, law_added_sp, law_held_ms, law_held_sp, slot_cost_ms, slot_cost_sp, serves_ms, serves_sp, starts_ms, starts_sp, stops_ms, stops_sp, running_cost_ms, running_cost_sp, row_cost_ms, row_cost_sp, law_some_row_ms, law_some_row_sp, least_numbers_ms, least_numbers_sp, bound_of_ms, bound_of_sp, law_bound_ms, law_bound_sp, best_by_layers_ms, best_by_layers_sp, law_best_row_ms, law_best_row_sp, span_of_ms, span_of_sp, prices_for_ms, prices_for_sp, paper_of_ms, paper_of_sp, is_integer_ms, is_integer_sp, are_integers_ms, are_integers_sp, first_where_ms, first_where_sp, is_least_ms, is_least_sp, judge_paper_ms, judge_paper_sp, law_price_fault_ms, law_price_fault_sp, law_need_fault_ms, law_need_fault_sp, row_layers_ms, row_layers_sp, SightRunner_init_ms, SightRunner_init_sp, SightRunner_look_ms, SightRunner_look_sp, run_sight_ms, run_sight_sp, sight_row_ms, sight_row_sp, law_mixed_ms, law_mixed_sp, law_some_sight_ms, law_some_sight_sp, law_sight_row_ms, law_sight_row_sp, law_shown_row_ms, law_shown_row_sp, LazyRunner_init_ms, LazyRunner_init_sp, LazyRunner_look_ms, LazyRunner_look_sp, run_lazy_ms, run_lazy_sp, lazy_account_ms, lazy_account_sp, lazy_row_ms, lazy_row_sp, law_bounds_ms, law_bounds_sp, law_lazy_ms, law_lazy_sp, law_far_ms, law_far_sp, law_dear_ms, law_dear_sp, law_draw_slots0_ms, law_draw_slots0_sp, law_between_ms, law_between_sp, tails_ms, tails_sp, sight_cost_ms, sight_cost_sp, sight_room_ms, sight_room_sp, law_prefixes_right_ms, law_prefixes_right_sp, law_worst_ms, law_worst_sp, law_need_price_ms, law_need_price_sp, c1, c2]
    refine ⟨row.take (t + 1), rfl, by omega, hrt, by omega, b1, mul_small ⟨by omega, by omega⟩ ⟨by omega, by omega⟩, mul_small (by decide) ⟨by omega, by omega⟩, needs.take (t + v + 1), rfl, by omega, fun x h => by have := hnt x h; omega, mul_small ⟨by omega, by omega⟩ ⟨by omega, by omega⟩, ?_⟩
    rw [if_neg (by omega)]
    exact hZ _ ⟨_, _, rfl⟩
  · rintro e ⟨x4, x5, rfl⟩
    walk_at "z18"
    exact hR
theorem rep_flat (n : Nat) : (List.replicate n [PyData.int 0]).flatten = (List.replicate n (0 : Int)).map PyData.int := by
  induction n with
  | zero => rfl
  | succ n ih => rw [List.replicate_succ, List.flatten_cons, ih, List.replicate_succ]; rfl
theorem worst_snoc {b : Nat} {high : Int} {gs : List Nat} {g : Nat} : worstF b high (gs ++ [g]) = worstF b high gs ++ (high :: List.replicate (b + g) 0) := by
  unfold worstF
  rw [List.flatMap_append]
  simp
theorem worst_len {b : Nat} {high : Int} : ∀ {gs : List Nat}, (∀ g ∈ gs, g ≤ 3) → (worstF b high gs).length ≤ gs.length * (b + 4)
  | [], _ => by simp [worstF]
  | g :: gs, h => by
    have ih := worst_len (b := b) (high := high) (gs := gs) fun x hx => h x (List.mem_cons_of_mem _ hx)
    have hg := h g (by simp)
    rw [worst_cons, List.length_cons, List.length_append, List.length_replicate, List.length_cons, Nat.add_mul]
    omega
theorem law__law_worst (ds : List D) (R : Nat → D → List D → Prop) (h : F__law_worst.sp ds R) : q__law_worst (entE [.io 2, .val] ds ++ List.replicate 4 none) (endK [.io 2, .val] R) := by
  obtain ⟨N, src, b, rfl, hs, hN, b0, b1, hR⟩ := h
  have szl : sizeLine = 16777216 := sizeLine_eq
  unfold q__law_worst
  show (wSeq _ _) [some (.own 2, src), some (.own 0, .int b), none, none, none, none] _
  refine seq_mid (fun e => ∃ (src : D) (laps high : Int), ∃ x5, e = [some (.own 2, src), some (.own 0, .int b), some (.own 0, .tuple []), some (.own 0, .int laps), some (.own 0, .int high), x5] ∧ Src (N + 2) src ∧ 1 ≤ laps ∧ laps ≤ 5 ∧ 1 ≤ high ∧ high ≤ 3) (fun V hV => ?_) ?_
  · walk_at "z18"
    refine ⟨_, hs, by omega, by decide, fun r s1 r0 r1 hs1 => ⟨_, hs1, by omega, by decide, fun q s2 q0 q1 hs2 => ?_⟩⟩
    exact hV _ ⟨s2, 1 + r, 1 + q, _, rfl, hs2, by omega, by omega, by omega, by omega⟩
  rintro e ⟨src, laps, high, x5, rfl, hs, l0, l1, h0, h1⟩
  refine seq_mid (fun e => ∃ (src : D) (gs : List Nat), ∃ x5, e = [some (.own 2, src), some (.own 0, .int b), some (.own 0, .tuple ((worstF b.toNat high gs).map .int)), some (.own 0, .int laps), some (.own 0, .int high), x5] ∧ Src (N + 10) src ∧ gs.length = laps.toNat ∧ ∀ g ∈ gs, g ≤ 3) (fun V hV => ?_) ?_
  · walk_at "z18"
    refine ⟨⟨by omega, by omega⟩, by omega, ?_⟩
    refine for_laps0 (fun i e => ∃ (src : D) (gs : List Nat), ∃ x5, e = [some (.own 2, src), some (.own 0, .int b), some (.own 0, .tuple ((worstF b.toNat high gs).map .int)), some (.own 0, .int laps), some (.own 0, .int high), x5] ∧ Src (N + 2 + i) src ∧ gs.length = i ∧ ∀ g ∈ gs, g ≤ 3) ⟨src, [], _, rfl, hs, rfl, by simp⟩ ?_ ?_
    · rintro i e hi ⟨src, gs, x5, rfl, hs, hl, hg⟩ Z hZ
      walk_at "z18"
      unfold q__law_worst_1
      walk_at "z18"
      have hi5 : i < 5 := by omega
      have hln := worst_len (b := b.toNat) (high := high) hg
      have hln2 : gs.length * (b.toNat + 4) ≤ 5 * 904 := Nat.mul_le_mul (by omega) (by omega)
      refine ⟨by rw [szl]; decide, by rw [szl]; omega, by rw [szl]; decide, _, hs, by omega, by decide, fun r s1 r0 r1 hs1 => ⟨List.cons_ne_nil _ _, by omega, by omega, ?_, ?_⟩⟩
      · rw [rep_flat, List.length_append, List.length_map, List.length_map, List.length_replicate, szl]
        simp only [List.length_singleton]
        omega
      · have hq := hZ _ ⟨s1, gs ++ [r.toNat], some (.own 0, .int i), rfl, hs1.mono (by omega), by simp [hl], fun g hg2 => by
          rcases List.mem_append.mp hg2 with h | h
          · exact hg g h
          · simp at h; omega⟩
        rw [worst_snoc, List.map_append, List.map_cons, show b.toNat + r.toNat = (b + r).toNat by omega] at hq
        rw [rep_flat, List.append_assoc]
        exact hq
    · rintro e ⟨src, gs, x5, rfl, hs, hl, hg⟩
      exact hV _ ⟨src, gs, _, rfl, hs.mono (by omega), hl, hg⟩
  rintro e ⟨src, gs, x5, rfl, hs, hl, hg⟩
  walk_at "z18"
  have := hR gs high src (fun h => by rw [h] at hl; simp at hl; omega) (by omega) hg h0 h1 hs
  rw [show ((gs.length : Nat) : Int) = laps by omega] at this
  exact ⟨by rw [szl]; decide, this⟩
end Sq
namespace K43
open PySem PySem.Spec PyProof.Rows L2 Sq
end K43
namespace K43
open PySem PySem.Spec PyProof.Rows L2 Sq
def top (i : Nat) : Stmt := PySem.Challenge.pw_wakedenough_k43_whole_first_sentence.main.body.getD i (.Pass ⟨0, 0, 0, 0⟩)
/-! ### closed_by -/
abbrev t_closed_by : Stmt := top 1
abbrev n_closed_by : List Str := ["needs", "kept", "tick", "found", "low", "last", "high"]
theorem sc_closed_by : FnScope n_closed_by ["needs", "kept", "tick"] (defScope t_closed_by) := ⟨rfl, rfl, rfl, by decide +kernel, rfl, by decide +kernel, by decide +kernel⟩
def l_closed_by_1 : WS := (wSeq (wAsg (wOp oIx (wCons (wSl 1) (wCons (wEx (wOp oNeg (wCons (wEx (wC (.int 1))) wNil))) wNil))) (wNmG 5)) (wSeq (wAsg (wOp oMin2 (wCons (wEx (wOp oIx (wCons (wSl 0) (wCons (wSl 5) wNil)))) (wCons (wEx (wOp oIx (wCons (wSl 0) (wCons (wSl 2) wNil)))) wNil))) (wNmG 6)) (wSeq (wIf (wAndT (wT (wOp oGt (wCons (wEx (wOp oSub (wCons (wSl 2) (wCons (wSl 5) wNil)))) (wCons (wEx (wC (.int 1))) wNil)))) (wT (wOp oLt (wCons (wSl 4) (wCons (wSl 6) wNil))))) (wSeq (wExpr (wApp 3 (wTup (wCons (wEx (wOp oAdd (wCons (wSl 5) (wCons (wEx (wC (.int 1))) wNil)))) (wCons (wEx (wOp oSub (wCons (wEx (wOp oSub (wCons (wSl 2) (wCons (wSl 5) wNil)))) (wCons (wEx (wC (.int 1))) wNil)))) (wCons (wEx (wVar 4)) (wCons (wEx (wVar 6)) wNil))))))) wNext) wNext) (wSeq (wIf (wT (wOp oGt (wCons (wEx (wOp oIx (wCons (wSl 0) (wCons (wSl 5) wNil)))) (wCons (wEx (wOp oIx (wCons (wSl 0) (wCons (wSl 2) wNil)))) wNil)))) (wSeq wBrk wNext) wNext) (wSeq (wAsg (wOp oMax2 (wCons (wSl 4) (wCons (wEx (wOp oIx (wCons (wSl 0) (wCons (wEx (wPop (.s 1))) wNil)))) wNil))) (wNmG 4)) wNext)))))
def b_closed_by : WS := (wSeq (wPar [3, 4] (wCons (wEx (wLst 0 wNil)) (wCons (wEx (wC (.int 0))) wNil))) (wSeq (wWhile (wT (wOp oNe (wCons (wSl 1) (wCons (wEx (wLst 0 wNil)) wNil)))) l_closed_by_1) (wSeq (wRet (wMv 3)) wNext)))
theorem w_closed_by {P : Program} {w : World} {K : Frag} {mg : Str → Option Value} {base : Heap} {f : Addr} {cdv : Value} {A : Around} {up : List Env} {s : Shared} {H : Hp} {k : Nat} (hr : Room k (A.deeper (envOfC "closed_by" (defScope t_closed_by) s.heap.objs.size f cdv))) (hgd : A.guards = some []) (m_max : mg "max" = none) (m_min : mg "min" = none)   :
    PSs (cxOf CX0 P w K mg base n_closed_by "closed_by" (defScope t_closed_by) f cdv A up s H fun _ _ _ => False).nox (defBody t_closed_by) (rdS K (Free [.val, .io 1, .val]) b_closed_by) :=
  (snd_seq (snd_par2 (i := 3) (j := 4) rfl sc_closed_by.nd rfl rfl (by decide) rfl rfl ⟨free_of rfl, free_of rfl⟩ (snd_cons (snd_ex (snd_lst (k := 0) snd_nil)) (snd_cons (snd_ex c_int) snd_nil rfl) rfl) rfl rfl) (snd_seq (snd_while PassesOwn.never (snd_tcmp (s_ne (u64 hr)) (snd_sl (pv 1)) (snd_ex (snd_lst (k := 0) snd_nil)) rfl) (snd_seq (snd_set (i := 5) sc_closed_by.nd rfl (.inl rfl) (.inl rfl) (free_of rfl) (snd_ix (snd_sl (pv 1)) (snd_ex (snd_neg (snd_ex c_int))) (fun _ _ => rfl)) rfl) (snd_seq (snd_set (i := 6) sc_closed_by.nd rfl (.inl rfl) (.inl rfl) (free_of rfl) (snd_callB (s_min2 rfl) rfl m_min Sq.boot_min (by decide) (by decide) (snd_cons (snd_ex (snd_ix (snd_sl (pv 0)) (snd_sl (pv 5)) (fun _ _ => rfl))) (snd_cons (snd_ex (snd_ix (snd_sl (pv 0)) (snd_sl (pv 2)) (fun _ _ => rfl))) snd_nil rfl) rfl) rfl rfl) rfl) (snd_seq (snd_if (PW.pt (snd_and (snd_tcmp s_gt (snd_ex (snd_bin s_sub (snd_sl (pv 2)) (snd_sl (pv 5)))) (snd_ex c_int) rfl) (snd_and1 (snd_tcmp (s_lt (u64 hr)) (snd_sl (pv 4)) (snd_sl (pv 6)) rfl)))) (snd_seq (snd_expr (snd_app (pv 3) (snd_tup (snd_cons (snd_ex (snd_bin s_add (snd_sl (pv 5)) (snd_ex c_int))) (snd_cons (snd_ex (snd_bin s_sub (snd_ex (snd_bin s_sub (snd_sl (pv 2)) (snd_sl (pv 5)))) (snd_ex c_int))) (snd_cons (snd_ex (snd_var (pv 4))) (snd_cons (snd_ex (snd_var (pv 6))) snd_nil rfl) rfl) rfl) rfl)) rfl rfl rfl rfl rfl) rfl) snd_snil) snd_snil) (snd_seq (snd_if (snd_tcmp s_gt (snd_ex (snd_ix (snd_sl (pv 0)) (snd_sl (pv 5)) (fun _ _ => rfl))) (snd_ex (snd_ix (snd_sl (pv 0)) (snd_sl (pv 2)) (fun _ _ => rfl))) rfl) (snd_seq snd_brk snd_snil) snd_snil) (snd_seq (snd_set (i := 4) sc_closed_by.nd rfl (.inl rfl) (.inl rfl) (free_of rfl) (snd_callB (s_max2 rfl) rfl m_max Sq.boot_max (by decide) (by decide) (snd_cons (snd_sl (pv 4)) (snd_cons (snd_ex (snd_ix (snd_sl (pv 0)) (snd_ex (snd_pop (snd_bs (pv 1)) rfl rfl)) (fun _ _ => rfl))) snd_nil rfl) rfl) rfl rfl) rfl) snd_snil)))))) (snd_seq (snd_ret (snd_mv (pv 3))) snd_snil)))
/-! ### valleys -/
abbrev t_valleys : Stmt := top 2
abbrev n_valleys : List Str := ["needs", "found", "kept", "tick"]
theorem sc_valleys : FnScope n_valleys ["needs"] (defScope t_valleys) := ⟨rfl, rfl, rfl, by decide +kernel, rfl, by decide +kernel, by decide +kernel⟩
def l_valleys_1 : WS := (wSeq (wExpr (wExt 1 (wCall F_closed_by (wCons (wSl 0) (wCons (wSl 2) (wCons (wSl 3) wNil)))))) (wSeq (wExpr (wApp 2 (wVar 3))) wNext))
def b_valleys : WS := (wSeq (wPar [1, 2] (wCons (wEx (wLst 0 wNil)) (wCons (wEx (wLst 0 wNil)) wNil))) (wSeq (wFor (wiRange1 (wOp oLen (wCons (wSl 0) wNil))) (wNmG 3) l_valleys_1) (wSeq (wRet (wOp oSorted (wCons (wSl 1) wNil))) wNext)))
theorem w_valleys {P : Program} {w : World} {K : Frag} {mg : Str → Option Value} {base : Heap} {f : Addr} {cdv : Value} {A : Around} {up : List Env} {s : Shared} {H : Hp} {k : Nat} (hr : Room k (A.deeper (envOfC "valleys" (defScope t_valleys) s.heap.objs.size f cdv))) (hgd : A.guards = some []) (m_len : mg "len" = none) (m_range : mg "range" = none) (m_sorted : mg "sorted" = none)  (c_closed_by : CalS P w K mg base k "closed_by" F_closed_by) :
    PSs (cxOf CX0 P w K mg base n_valleys "valleys" (defScope t_valleys) f cdv A up s H fun _ _ _ => False).nox (defBody t_valleys) (rdS K (Free [.val]) b_valleys) :=
  (snd_seq (snd_par2 (i := 1) (j := 2) rfl sc_valleys.nd rfl rfl (by decide) rfl rfl ⟨free_of rfl, free_of rfl⟩ (snd_cons (snd_ex (snd_lst (k := 0) snd_nil)) (snd_cons (snd_ex (snd_lst (k := 0) snd_nil)) snd_nil rfl) rfl) rfl rfl) (snd_seq (snd_for PassesOwn.never rfl (snd_range1 rfl m_range (snd_callB s_len rfl m_len boot_len (by decide) (by decide) (snd_cons (snd_sl (pv 0)) snd_nil rfl) rfl rfl) rfl) (snd_nm (i := 3) sc_valleys.nd rfl (.inl rfl) (.inl rfl) (free_of rfl)) (snd_seq (snd_expr (snd_ext (pv 1) (snd_call c_closed_by hr hgd rfl (snd_cons (snd_sl (pv 0)) (snd_cons (snd_sl (pv 2)) (snd_cons (snd_sl (pv 3)) snd_nil rfl) rfl) rfl) (by decide) rfl rfl) rfl rfl rfl rfl rfl) rfl) (snd_seq (snd_expr (snd_app (pv 2) (snd_var (pv 3)) rfl rfl rfl rfl rfl) rfl) snd_snil)) (fun _ => rfl)) (snd_seq (snd_ret (snd_callB (s_sorted (u64 hr)) rfl m_sorted Sq.boot_sorted (by decide) (by decide) (snd_cons (snd_sl (pv 1)) snd_nil rfl) rfl rfl)) snd_snil)))
/-! ### SightRunner_look -/
abbrev t_SightRunner_look : Stmt := inI 1 (top 4)
abbrev n_SightRunner_look : List Str := ["self", "seen", "near"]
theorem sc_SightRunner_look : FnScope n_SightRunner_look ["self", "seen"] (defScope t_SightRunner_look) := ⟨rfl, rfl, rfl, by decide +kernel, rfl, by decide +kernel, by decide +kernel⟩
def b_SightRunner_look : WS := (wSeq (wAsg (wOp oMax1 (wCons (wEx (wLst 0 (wCons (wEx (wC (.int 0))) (wStar (wEx (wPl (.f (.s 0) 2 "past"))) (wStar (wEx (wCut (wSl 1) (wP1 (wC (.int 1))) (wP1 (wOp oAdd (wCons (wEx (wPl (.f (.s 0) 1 "w"))) (wCons (wEx (wC (.int 1))) wNil)))))) wNil))))) wNil)) (wNmG 2)) (wSeq (wAsg (wOp oMax2 (wCons (wEx (wOp oIx (wCons (wSl 1) (wCons (wEx (wC (.int 0))) wNil)))) (wCons (wEx (wOp oMin2 (wCons (wEx (wPl (.f (.s 0) 3 "on"))) (wCons (wSl 2) wNil)))) wNil))) (wPutF (.s 0) "SightRunner" 3 "on")) (wSeq (wAsg (wFz (wCut (wEx (wLst 0 (wStar (wEx (wPl (.f (.s 0) 2 "past"))) (wCons (wEx (wOp oIx (wCons (wSl 1) (wCons (wEx (wC (.int 0))) wNil)))) wNil)))) (wP1 (wOp oSub (wCons (wEx (wOp oAdd (wCons (wEx (wUn oLen (.f (.s 0) 2 "past"))) (wCons (wEx (wC (.int 1))) wNil)))) (wCons (wEx (wOp oMin2 (wCons (wEx (wOp oAdd (wCons (wEx (wUn oLen (.f (.s 0) 2 "past"))) (wCons (wEx (wC (.int 1))) wNil)))) (wCons (wEx (wPl (.f (.s 0) 0 "many"))) wNil)))) wNil)))) wP0)) (wPutF (.s 0) "SightRunner" 2 "past")) (wSeq (wRet (wPl (.f (.s 0) 3 "on"))) wNext))))
theorem w_SightRunner_look {P : Program} {w : World} {K : Frag} {mg : Str → Option Value} {base : Heap} {f : Addr} {cdv : Value} {A : Around} {up : List Env} {s : Shared} {H : Hp} {k : Nat} (hr : Room k (A.deeper (envOfC "SightRunner.look" (defScope t_SightRunner_look) s.heap.objs.size f cdv))) (hgd : A.guards = some []) (m_len : mg "len" = none) (m_max : mg "max" = none) (m_min : mg "min" = none)   (f_SightRunner_on : FldC K "SightRunner" "on") (f_SightRunner_past : FldC K "SightRunner" "past") :
    PSs (cxOf CX0 P w K mg base n_SightRunner_look "SightRunner.look" (defScope t_SightRunner_look) f cdv A up s H fun _ _ _ => False).nox (defBody t_SightRunner_look) (rdS K (Free [.io 1, .val]) b_SightRunner_look) :=
  (snd_seq (snd_set (i := 2) sc_SightRunner_look.nd rfl (.inl rfl) (.inl rfl) (free_of rfl) (snd_callB (s_max1 rfl) rfl m_max Sq.boot_max (by decide) (by decide) (snd_cons (snd_ex (snd_lst (k := 0) (snd_cons (snd_ex c_int) (snd_star (snd_ex (snd_pl (snd_bf (j := 2) (snd_bs (pv 0)) rfl))) (snd_star (snd_ex (snd_cut (snd_sl (pv 1)) (snd_p1 c_int) (snd_p1 (snd_bin s_add (snd_ex (snd_pl (snd_bf (j := 1) (snd_bs (pv 0)) rfl))) (snd_ex c_int))))) snd_nil)) rfl))) snd_nil rfl) rfl rfl) rfl) (snd_seq (snd_asg (snd_callB (s_max2 rfl) rfl m_max Sq.boot_max (by decide) (by decide) (snd_cons (snd_ex (snd_ix (snd_sl (pv 1)) (snd_ex c_int) (fun _ _ => rfl))) (snd_cons (snd_ex (snd_callB (s_min2 rfl) rfl m_min Sq.boot_min (by decide) (by decide) (snd_cons (snd_ex (snd_pl (snd_bf (j := 3) (snd_bs (pv 0)) rfl))) (snd_cons (snd_sl (pv 2)) snd_nil rfl) rfl) rfl rfl)) snd_nil rfl) rfl) rfl rfl) (snd_putF (j := 3) f_SightRunner_on (snd_bs (pv 0)) (fun _ => rfl)) rfl rfl rfl) (snd_seq (snd_asg (snd_fz (snd_cut (snd_ex (snd_lst (k := 0) (snd_star (snd_ex (snd_pl (snd_bf (j := 2) (snd_bs (pv 0)) rfl))) (snd_cons (snd_ex (snd_ix (snd_sl (pv 1)) (snd_ex c_int) (fun _ _ => rfl))) snd_nil rfl)))) (snd_p1 (snd_bin s_sub (snd_ex (snd_bin s_add (snd_ex (snd_unB s_len rfl m_len boot_len (by decide) (by decide) (snd_bf (j := 2) (snd_bs (pv 0)) rfl) rfl rfl)) (snd_ex c_int))) (snd_ex (snd_callB (s_min2 rfl) rfl m_min Sq.boot_min (by decide) (by decide) (snd_cons (snd_ex (snd_bin s_add (snd_ex (snd_unB s_len rfl m_len boot_len (by decide) (by decide) (snd_bf (j := 2) (snd_bs (pv 0)) rfl) rfl rfl)) (snd_ex c_int))) (snd_cons (snd_ex (snd_pl (snd_bf (j := 0) (snd_bs (pv 0)) rfl))) snd_nil rfl) rfl) rfl rfl)))) snd_p0)) (snd_putF (j := 2) f_SightRunner_past (snd_bs (pv 0)) (fun _ => rfl)) rfl rfl rfl) (snd_seq (snd_ret (snd_pl (snd_bf (j := 3) (snd_bs (pv 0)) rfl))) snd_snil))))
/-! ### run -/
abbrev t_run : Stmt := top 5
abbrev n_run : List Str := ["runner", "row", "w", "t"]
theorem sc_run : FnScope n_run ["runner", "row", "w"] (defScope t_run) := ⟨rfl, rfl, rfl, by decide +kernel, rfl, by decide +kernel, by decide +kernel⟩
def b_run : WS := (wSeq (wRet (wOp oTuple (wCons (wEx (wComp (wiRange1 (wOp oLen (wCons (wSl 1) wNil))) (wNmG 3) wYes (wFz (wMeth [("SightRunner", F_SightRunner_look)] (wSl 0) (wCons (wEx (wOp oTuple (wCons (wEx (wCut (wSl 1) (wP1 (wVar 3)) (wP1 (wOp oAdd (wCons (wEx (wOp oAdd (wCons (wSl 3) (wCons (wSl 2) wNil)))) (wCons (wEx (wC (.int 1))) wNil)))))) wNil))) wNil))) [3] 0)) wNil))) wNext)
theorem w_run {P : Program} {w : World} {K : Frag} {mg : Str → Option Value} {base : Heap} {f : Addr} {cdv : Value} {A : Around} {up : List Env} {s : Shared} {H : Hp} {k : Nat} (hr : Room k (A.deeper (envOfC "run" (defScope t_run) s.heap.objs.size f cdv))) (hgd : A.guards = some []) (m_len : mg "len" = none) (m_range : mg "range" = none) (m_tuple : mg "tuple" = none)  (c_SightRunner_look : CalM P w K mg base k "SightRunner" "look" F_SightRunner_look) :
    PSs (cxOf CX0 P w K mg base n_run "run" (defScope t_run) f cdv A up s H fun _ _ _ => False).nox (defBody t_run) (rdS K (Free [.io 1, .val, .val]) b_run) :=
  (snd_seq (snd_ret (snd_callT s_tuple rfl m_tuple boot_tuple (by decide) (by decide) (snd_cons (snd_ex (snd_comp (own := [("t", 3)]) (k := 0) rfl sc_run.nd (snd_range1 rfl m_range (snd_callB s_len rfl m_len boot_len (by decide) (by decide) (snd_cons (snd_sl (pv 1)) snd_nil rfl) rfl rfl) rfl) (blkOk_by (N := n_run) (sc := defScope t_run) (by decide +kernel)) (fun _ _ _ _ _ => (snd_nm (i := 3) sc_run.nd rfl (.inl rfl) (.inr rfl) (by decide))) (fun _ _ _ _ _ => snd_yes) (fun _ _ _ _ _ => (snd_fz (snd_meth (Fs := [("SightRunner", F_SightRunner_look)]) (pl := _) (all_cons c_SightRunner_look (all_nil)) hr hgd (snd_sl (pv 0)) (snd_cons (snd_ex (snd_callT s_tuple rfl m_tuple boot_tuple (by decide) (by decide) (snd_cons (snd_ex (snd_cut (snd_sl (pv 1)) (snd_p1 (snd_var (pv 3))) (snd_p1 (snd_bin s_add (snd_ex (snd_bin s_add (snd_sl (pv 3)) (snd_sl (pv 2)))) (snd_ex c_int))))) snd_nil rfl) rfl rfl)) snd_nil rfl) rfl rfl rfl))) (fun _ => rfl))) snd_nil rfl) rfl rfl)) snd_snil)
/-! ### SightRunner_init -/
abbrev t_SightRunner_init : Stmt := inI 0 (top 4)
abbrev n_SightRunner_init : List Str := ["self", "b", "w"]
theorem sc_SightRunner_init : FnScope n_SightRunner_init ["self", "b", "w"] (defScope t_SightRunner_init) := ⟨rfl, rfl, rfl, by decide +kernel, rfl, by decide +kernel, by decide +kernel⟩
def b_SightRunner_init : WS := (wSeq (wAsg (wOp oSub (wCons (wEx (wOp oSub (wCons (wSl 1) (wCons (wEx (wC (.int 1))) wNil)))) (wCons (wSl 2) wNil))) (wAddF (.s 0) "SightRunner" [] "many")) (wSeq (wAsg (wVar 2) (wAddF (.s 0) "SightRunner" ["many"] "w")) (wSeq (wAsg (wFz (wLst 0 wNil)) (wAddF (.s 0) "SightRunner" ["many", "w"] "past")) (wSeq (wAsg (wC (.int 0)) (wAddF (.s 0) "SightRunner" ["many", "w", "past"] "on")) wNext))))
theorem w_SightRunner_init {P : Program} {w : World} {K : Frag} {mg : Str → Option Value} {base : Heap} {f : Addr} {cdv : Value} {A : Around} {up : List Env} {s : Shared} {H : Hp} {k : Nat} (hr : Room k (A.deeper (envOfC "SightRunner.__init__" (defScope t_SightRunner_init) s.heap.objs.size f cdv))) (hgd : A.guards = some [])    (f_SightRunner_many : FldC K "SightRunner" "many") (f_SightRunner_w : FldC K "SightRunner" "w") (f_SightRunner_past : FldC K "SightRunner" "past") (f_SightRunner_on : FldC K "SightRunner" "on") :
    PSs (cxOf CX0 P w K mg base n_SightRunner_init "SightRunner.__init__" (defScope t_SightRunner_init) f cdv A up s H fun _ _ _ => False).nox (defBody t_SightRunner_init) (rdS K (Free [.io 1, .val, .val]) b_SightRunner_init) :=
  (snd_seq (snd_asg (snd_bin s_sub (snd_ex (snd_bin s_sub (snd_sl (pv 1)) (snd_ex c_int))) (snd_sl (pv 2))) (snd_addF (gs := []) f_SightRunner_many (by decide +kernel) (by decide) (snd_bs (pv 0)) (fun _ => rfl)) rfl rfl rfl) (snd_seq (snd_asg (snd_var (pv 2)) (snd_addF (gs := ["many"]) f_SightRunner_w (by decide +kernel) (by decide) (snd_bs (pv 0)) (fun _ => rfl)) rfl rfl rfl) (snd_seq (snd_asg (snd_fz (snd_lst (k := 0) snd_nil)) (snd_addF (gs := ["many", "w"]) f_SightRunner_past (by decide +kernel) (by decide) (snd_bs (pv 0)) (fun _ => rfl)) rfl rfl rfl) (snd_seq (snd_asg c_int (snd_addF (gs := ["many", "w", "past"]) f_SightRunner_on (by decide +kernel) (by decide) (snd_bs (pv 0)) (fun _ => rfl)) rfl rfl rfl) snd_snil))))
/-! ### sight_row -/
abbrev t_sight_row : Stmt := top 7
abbrev n_sight_row : List Str := ["needs", "b", "w"]
theorem sc_sight_row : FnScope n_sight_row ["needs", "b", "w"] (defScope t_sight_row) := ⟨rfl, rfl, rfl, by decide +kernel, rfl, by decide +kernel, by decide +kernel⟩
def b_sight_row : WS := (wSeq (wRet (wFz (wCallT F_run_sight (wCons (wEx (wMake "SightRunner" 0 [.val, .val] F_SightRunner_init (wCons (wSl 1) (wCons (wSl 2) wNil)))) (wCons (wSl 0) (wCons (wSl 2) wNil)))))) wNext)
theorem w_sight_row {P : Program} {w : World} {K : Frag} {mg : Str → Option Value} {base : Heap} {f : Addr} {cdv : Value} {A : Around} {up : List Env} {s : Shared} {H : Hp} {k : Nat} (hr : Room k (A.deeper (envOfC "sight_row" (defScope t_sight_row) s.heap.objs.size f cdv))) (hgd : A.guards = some [])   {kc : Nat} (hkc : kc + 1 ≤ k) (c_run : CalS P w K mg base k "run" F_run_sight) (c_SightRunner_init : CalC P w K mg base kc "SightRunner" F_SightRunner_init) :
    PSs (cxOf CX0 P w K mg base n_sight_row "sight_row" (defScope t_sight_row) f cdv A up s H fun _ _ _ => False).nox (defBody t_sight_row) (rdS K (Free [.val, .val, .val]) b_sight_row) :=
  (snd_seq (snd_ret (snd_fz (snd_callIo c_run hr hgd rfl (snd_cons (snd_ex (snd_make (n := 0) (ms := [.val, .val]) c_SightRunner_init (hr.mono hkc) hgd rfl (snd_cons (snd_sl (pv 1)) (snd_cons (snd_sl (pv 2)) snd_nil rfl) rfl) (by decide) rfl rfl)) (snd_cons (snd_sl (pv 0)) (snd_cons (snd_sl (pv 2)) snd_nil rfl) rfl) rfl) (by decide) rfl rfl))) snd_snil)
/-! ### tails -/
abbrev t_tails : Stmt := top 8
abbrev n_tails : List Str := ["needs", "found", "low", "begin"]
theorem sc_tails : FnScope n_tails ["needs"] (defScope t_tails) := ⟨rfl, rfl, rfl, by decide +kernel, rfl, by decide +kernel, by decide +kernel⟩
def l_tails_1 : WS := (wSeq (wAsg (wOp oMax2 (wCons (wSl 2) (wCons (wEx (wOp oIx (wCons (wSl 0) (wCons (wSl 3) wNil)))) wNil))) (wNmG 2)) (wSeq (wIf (wT (wOp oGt (wCons (wEx (wOp oIx (wCons (wSl 0) (wCons (wEx (wOp oSub (wCons (wSl 3) (wCons (wEx (wC (.int 1))) wNil)))) wNil)))) (wCons (wSl 2) wNil)))) (wSeq (wExpr (wApp 1 (wTup (wCons (wEx (wVar 3)) (wCons (wEx (wOp oSub (wCons (wEx (wOp oLen (wCons (wSl 0) wNil))) (wCons (wSl 3) wNil)))) (wCons (wEx (wVar 2)) (wCons (wEx (wOp oIx (wCons (wSl 0) (wCons (wEx (wOp oSub (wCons (wSl 3) (wCons (wEx (wC (.int 1))) wNil)))) wNil)))) wNil))))))) wNext) wNext) wNext))
def b_tails : WS := (wSeq (wPar [1, 2] (wCons (wEx (wLst 0 wNil)) (wCons (wEx (wC (.int 0))) wNil))) (wSeq (wFor (wiRange3 (wOp oSub (wCons (wEx (wOp oLen (wCons (wSl 0) wNil))) (wCons (wEx (wC (.int 1))) wNil))) (wC (.int 0)) (wOp oNeg (wCons (wEx (wC (.int 1))) wNil))) (wNmG 3) l_tails_1) (wSeq (wRet (wOp oRev (wCons (wSl 1) wNil))) wNext)))
theorem w_tails {P : Program} {w : World} {K : Frag} {mg : Str → Option Value} {base : Heap} {f : Addr} {cdv : Value} {A : Around} {up : List Env} {s : Shared} {H : Hp} {k : Nat} (hr : Room k (A.deeper (envOfC "tails" (defScope t_tails) s.heap.objs.size f cdv))) (hgd : A.guards = some []) (m_len : mg "len" = none) (m_max : mg "max" = none) (m_range : mg "range" = none)   :
    PSs (cxOf CX0 P w K mg base n_tails "tails" (defScope t_tails) f cdv A up s H fun _ _ _ => False).nox (defBody t_tails) (rdS K (Free [.val]) b_tails) :=
  (snd_seq (snd_par2 (i := 1) (j := 2) rfl sc_tails.nd rfl rfl (by decide) rfl rfl ⟨free_of rfl, free_of rfl⟩ (snd_cons (snd_ex (snd_lst (k := 0) snd_nil)) (snd_cons (snd_ex c_int) snd_nil rfl) rfl) rfl rfl) (snd_seq (snd_for PassesOwn.never rfl (snd_range3 rfl m_range (snd_bin s_sub (snd_ex (snd_callB s_len rfl m_len boot_len (by decide) (by decide) (snd_cons (snd_sl (pv 0)) snd_nil rfl) rfl rfl)) (snd_ex c_int)) c_int (snd_neg (snd_ex c_int)) rfl rfl rfl rfl) (snd_nm (i := 3) sc_tails.nd rfl (.inl rfl) (.inl rfl) (free_of rfl)) (snd_seq (snd_set (i := 2) sc_tails.nd rfl (.inl rfl) (.inl rfl) (free_of rfl) (snd_callB (s_max2 rfl) rfl m_max Sq.boot_max (by decide) (by decide) (snd_cons (snd_sl (pv 2)) (snd_cons (snd_ex (snd_ix (snd_sl (pv 0)) (snd_sl (pv 3)) (fun _ _ => rfl))) snd_nil rfl) rfl) rfl rfl) rfl) (snd_seq (snd_if (snd_tcmp s_gt (snd_ex (snd_ix (snd_sl (pv 0)) (snd_ex (snd_bin s_sub (snd_sl (pv 3)) (snd_ex c_int))) (fun _ _ => rfl))) (snd_sl (pv 2)) rfl) (snd_seq (snd_expr (snd_app (pv 1) (snd_tup (snd_cons (snd_ex (snd_var (pv 3))) (snd_cons (snd_ex (snd_bin s_sub (snd_ex (snd_callB s_len rfl m_len boot_len (by decide) (by decide) (snd_cons (snd_sl (pv 0)) snd_nil rfl) rfl rfl)) (snd_sl (pv 3)))) (snd_cons (snd_ex (snd_var (pv 2))) (snd_cons (snd_ex (snd_ix (snd_sl (pv 0)) (snd_ex (snd_bin s_sub (snd_sl (pv 3)) (snd_ex c_int))) (fun _ _ => rfl))) snd_nil rfl) rfl) rfl) rfl)) rfl rfl rfl rfl rfl) rfl) snd_snil) snd_snil) snd_snil)) (fun _ => rfl)) (snd_seq (snd_ret (snd_rev (snd_sl (pv 1)))) snd_snil)))
/-! ### sight_cost -/
abbrev t_sight_cost : Stmt := top 9
abbrev n_sight_cost : List Str := ["needs", "b", "w", "total", "begin", "length", "low", "high"]
theorem sc_sight_cost : FnScope n_sight_cost ["needs", "b", "w"] (defScope t_sight_cost) := ⟨rfl, rfl, rfl, by decide +kernel, rfl, by decide +kernel, by decide +kernel⟩
def l_sight_cost_1 : WS := (wSeq (wAsg (wOp oAdd (wCons (wSl 3) (wCons (wEx (wOp oMul (wCons (wEx (wOp oSub (wCons (wSl 7) (wCons (wSl 6) wNil)))) (wCons (wEx (wIte (wT (wOp oLt (wCons (wSl 5) (wCons (wSl 1) wNil)))) (wVar 5) (wOp oSub (wCons (wEx (wOp oSub (wCons (wEx (wOp oMul (wCons (wEx (wC (.int 2))) (wCons (wSl 1) wNil)))) (wCons (wEx (wC (.int 1))) wNil)))) (wCons (wSl 2) wNil))))) wNil)))) wNil))) (wNmG 3)) wNext)
def l_sight_cost_2 : WS := (wSeq (wAsg (wOp oAdd (wCons (wSl 3) (wCons (wEx (wOp oMul (wCons (wEx (wOp oSub (wCons (wSl 7) (wCons (wSl 6) wNil)))) (wCons (wEx (wOp oMin2 (wCons (wSl 5) (wCons (wEx (wOp oSub (wCons (wEx (wOp oSub (wCons (wSl 1) (wCons (wEx (wC (.int 1))) wNil)))) (wCons (wSl 2) wNil)))) wNil)))) wNil)))) wNil))) (wNmG 3)) wNext)
def b_sight_cost : WS := (wSeq (wAsg (wOp oAdd (wCons (wEx (wOp oSum (wCons (wSl 0) wNil))) (wCons (wEx (wOp oMul (wCons (wSl 1) (wCons (wEx (wOp oMax1 (wCons (wEx (wLst 0 (wCons (wEx (wC (.int 0))) (wStar (wSl 0) wNil)))) wNil))) wNil)))) wNil))) (wNmG 3)) (wSeq (wFor (wiSeq (wEx (wCall F_valleys (wCons (wSl 0) wNil)))) (wTp 4 (wGc (wNmG 4) (wGc (wNmG 5) (wGc (wNmG 6) (wGc (wNmG 7) wGn))))) l_sight_cost_1) (wSeq (wFor (wiSeq (wEx (wCall F_tails (wCons (wSl 0) wNil)))) (wTp 4 (wGc (wNmG 4) (wGc (wNmG 5) (wGc (wNmG 6) (wGc (wNmG 7) wGn))))) l_sight_cost_2) (wSeq (wRet (wVar 3)) wNext))))
theorem w_sight_cost {P : Program} {w : World} {K : Frag} {mg : Str → Option Value} {base : Heap} {f : Addr} {cdv : Value} {A : Around} {up : List Env} {s : Shared} {H : Hp} {k : Nat} (hr : Room k (A.deeper (envOfC "sight_cost" (defScope t_sight_cost) s.heap.objs.size f cdv))) (hgd : A.guards = some []) (m_max : mg "max" = none) (m_min : mg "min" = none) (m_sum : mg "sum" = none)  (c_valleys : CalS P w K mg base k "valleys" F_valleys) (c_tails : CalS P w K mg base k "tails" F_tails) :
    PSs (cxOf CX0 P w K mg base n_sight_cost "sight_cost" (defScope t_sight_cost) f cdv A up s H fun _ _ _ => False).nox (defBody t_sight_cost) (rdS K (Free [.val, .val, .val]) b_sight_cost) :=
  (snd_seq (snd_set (i := 3) sc_sight_cost.nd rfl (.inl rfl) (.inl rfl) (free_of rfl) (snd_bin s_add (snd_ex (snd_callB (s_sum rfl) rfl m_sum boot_sum' (by decide) (by decide) (snd_cons (snd_sl (pv 0)) snd_nil rfl) rfl rfl)) (snd_ex (snd_bin s_mul (snd_sl (pv 1)) (snd_ex (snd_callB (s_max1 rfl) rfl m_max Sq.boot_max (by decide) (by decide) (snd_cons (snd_ex (snd_lst (k := 0) (snd_cons (snd_ex c_int) (snd_star (snd_sl (pv 0)) snd_nil) rfl))) snd_nil rfl) rfl rfl))))) rfl) (snd_seq (snd_for PassesOwn.never rfl (snd_seqI (snd_ex (snd_call c_valleys hr hgd rfl (snd_cons (snd_sl (pv 0)) snd_nil rfl) (by decide) rfl rfl))) (snd_tp (k := 4) rfl (snd_gc (snd_nm (i := 4) sc_sight_cost.nd rfl (.inl rfl) (.inl rfl) (free_of rfl)) (snd_gc (snd_nm (i := 5) sc_sight_cost.nd rfl (.inl rfl) (.inl rfl) (free_of rfl)) (snd_gc (snd_nm (i := 6) sc_sight_cost.nd rfl (.inl rfl) (.inl rfl) (free_of rfl)) (snd_gc (snd_nm (i := 7) sc_sight_cost.nd rfl (.inl rfl) (.inl rfl) (free_of rfl)) snd_gn rfl) rfl) rfl) rfl) rfl rfl) (snd_seq (snd_set (i := 3) sc_sight_cost.nd rfl (.inl rfl) (.inl rfl) (free_of rfl) (snd_bin s_add (snd_sl (pv 3)) (snd_ex (snd_bin s_mul (snd_ex (snd_bin s_sub (snd_sl (pv 7)) (snd_sl (pv 6)))) (snd_ex (snd_ite (snd_tcmp (s_lt (u64 hr)) (snd_sl (pv 5)) (snd_sl (pv 1)) rfl) (snd_var (pv 5)) (snd_bin s_sub (snd_ex (snd_bin s_sub (snd_ex (snd_bin s_mul (snd_ex c_int) (snd_sl (pv 1)))) (snd_ex c_int))) (snd_sl (pv 2)))))))) rfl) snd_snil) (fun _ => rfl)) (snd_seq (snd_for PassesOwn.never rfl (snd_seqI (snd_ex (snd_call c_tails hr hgd rfl (snd_cons (snd_sl (pv 0)) snd_nil rfl) (by decide) rfl rfl))) (snd_tp (k := 4) rfl (snd_gc (snd_nm (i := 4) sc_sight_cost.nd rfl (.inl rfl) (.inl rfl) (free_of rfl)) (snd_gc (snd_nm (i := 5) sc_sight_cost.nd rfl (.inl rfl) (.inl rfl) (free_of rfl)) (snd_gc (snd_nm (i := 6) sc_sight_cost.nd rfl (.inl rfl) (.inl rfl) (free_of rfl)) (snd_gc (snd_nm (i := 7) sc_sight_cost.nd rfl (.inl rfl) (.inl rfl) (free_of rfl)) snd_gn rfl) rfl) rfl) rfl) rfl rfl) (snd_seq (snd_set (i := 3) sc_sight_cost.nd rfl (.inl rfl) (.inl rfl) (free_of rfl) (snd_bin s_add (snd_sl (pv 3)) (snd_ex (snd_bin s_mul (snd_ex (snd_bin s_sub (snd_sl (pv 7)) (snd_sl (pv 6)))) (snd_ex (snd_callB (s_min2 rfl) rfl m_min Sq.boot_min (by decide) (by decide) (snd_cons (snd_sl (pv 5)) (snd_cons (snd_ex (snd_bin s_sub (snd_ex (snd_bin s_sub (snd_sl (pv 1)) (snd_ex c_int))) (snd_sl (pv 2)))) snd_nil rfl) rfl) rfl rfl))))) rfl) snd_snil) (fun _ => rfl)) (snd_seq (snd_ret (snd_var (pv 3))) snd_snil))))
/-! ### _law_source -/
abbrev t__law_source : Stmt := top 11
abbrev n__law_source : List Str := ["script", "mixed", "cell"]
theorem sc__law_source : FnScope n__law_source ["script"] (defScope t__law_source) := ⟨rfl, rfl, rfl, by decide +kernel, rfl, by decide +kernel, by decide +kernel⟩
def l__law_source_1 : WS := (wSeq (wAsg (wOp oMod (wCons (wEx (wOp oInt (wCons (wEx (wOp oAdd (wCons (wEx (wOp oAdd (wCons (wEx (wOp oMul (wCons (wSl 1) (wCons (wEx (wC (.int 69069))) wNil)))) (wCons (wEx (wOp oMul (wCons (wSl 2) (wCons (wEx (wC (.int 31))) wNil)))) wNil)))) (wCons (wEx (wC (.int 5))) wNil)))) wNil))) (wCons (wEx (wC (.int 2147483629))) wNil))) (wNmG 1)) wNext)
def b__law_source : WS := (wSeq (wAsg (wC (.int 11)) (wNmG 1)) (wSeq (wFor (wiSeq (wSl 0)) (wNmG 2) l__law_source_1) (wSeq (wRet (wDisp [.inr "cells", .inr "left", .inr "mixed", .inr "turn"] 1 [(wOp oRev (wCons (wEx (wComp (wiSeq (wSl 0)) (wNmG 2) wYes (wOp oAbs (wCons (wSl 2) wNil)) [2] 0)) wNil)), (wC (.int 1)), (wVar 1), (wC (.int 0))])) wNext)))
theorem w__law_source {P : Program} {w : World} {K : Frag} {mg : Str → Option Value} {base : Heap} {f : Addr} {cdv : Value} {A : Around} {up : List Env} {s : Shared} {H : Hp} {k : Nat} (hr : Room k (A.deeper (envOfC "_law_source" (defScope t__law_source) s.heap.objs.size f cdv))) (hgd : A.guards = some []) (m_abs : mg "abs" = none) (m_int : mg "int" = none)   :
    PSs (cxOf CX0 P w K mg base n__law_source "_law_source" (defScope t__law_source) f cdv A up s H fun _ _ _ => False).nox (defBody t__law_source) (rdS K (Free [.val]) b__law_source) :=
  (snd_seq (snd_set (i := 1) sc__law_source.nd rfl (.inl rfl) (.inl rfl) (free_of rfl) c_int rfl) (snd_seq (snd_for PassesOwn.never rfl (snd_seqI (snd_sl (pv 0))) (snd_nm (i := 2) sc__law_source.nd rfl (.inl rfl) (.inl rfl) (free_of rfl)) (snd_seq (snd_set (i := 1) sc__law_source.nd rfl (.inl rfl) (.inl rfl) (free_of rfl) (snd_bin s_mod (snd_ex (snd_callT s_int rfl m_int boot_int (by decide) (by decide) (snd_cons (snd_ex (snd_bin s_add (snd_ex (snd_bin s_add (snd_ex (snd_bin s_mul (snd_sl (pv 1)) (snd_ex c_int))) (snd_ex (snd_bin s_mul (snd_sl (pv 2)) (snd_ex c_int))))) (snd_ex c_int))) snd_nil rfl) rfl rfl)) (snd_ex c_int)) rfl) snd_snil) (fun _ => rfl)) (snd_seq (snd_ret (snd_disp (m := 1) (.cons (k := .inr "cells") pe_str (.cons (k := .inr "left") pe_str (.cons (k := .inr "mixed") pe_str (.cons (k := .inr "turn") pe_str PKs.nil)))) (.cons (snd_rev (snd_ex (snd_comp (own := [("cell", 2)]) (k := 0) rfl sc__law_source.nd (snd_seqI (snd_sl (pv 0))) (blkOk_by (N := n__law_source) (sc := defScope t__law_source) (by decide +kernel)) (fun _ _ _ _ _ => (snd_nm (i := 2) sc__law_source.nd rfl (.inl rfl) (.inr rfl) (by decide))) (fun _ _ _ _ _ => snd_yes) (fun _ _ _ _ _ => (snd_callB s_abs rfl m_abs Sq.boot_abs (by decide) (by decide) (snd_cons (snd_sl (pv 2)) snd_nil rfl) rfl rfl)) (fun _ => rfl)))) (.cons c_int (.cons (snd_var (pv 1)) (.cons c_int PVs.nil)))) rfl rfl (by decide) rfl (by simp) (by decide) (by decide))) snd_snil)))
/-! ### _law_pick -/
abbrev t__law_pick : Stmt := top 12
abbrev n__law_pick : List Str := ["source", "many", "left", "mixed"]
theorem sc__law_pick : FnScope n__law_pick ["source", "many"] (defScope t__law_pick) := ⟨rfl, rfl, rfl, by decide +kernel, rfl, by decide +kernel, by decide +kernel⟩
def l__law_pick_1 : WS := (wSeq (wAsg (wPop (.k (.s 0) (.c (.inr "cells")))) (wPut (.s 0) (.c (.inr "left")))) wNext)
def b__law_pick : WS := (wSeq (wWhile (wAndT (wT (wOp oGt (wCons (wSl 1) (wCons (wEx (wC (.int 1))) wNil)))) (wAndT (wT (wOp oLt (wCons (wEx (wPl (.k (.s 0) (.c (.inr "left"))))) (wCons (wEx (wC (.int 2))) wNil)))) (wT (wOp oGt (wCons (wEx (wUn oLen (.k (.s 0) (.c (.inr "cells"))))) (wCons (wEx (wC (.int 0))) wNil)))))) l__law_pick_1) (wSeq (wAsg (wPl (.k (.s 0) (.c (.inr "left")))) (wNmG 2)) (wSeq (wIf (wOrT (wT (wOp oLt (wCons (wSl 1) (wCons (wEx (wC (.int 2))) wNil)))) (wT (wOp oGt (wCons (wSl 2) (wCons (wEx (wC (.int 1))) wNil))))) (wSeq (wAsg (wOp oDiv (wCons (wSl 2) (wCons (wEx (wOp oMax2 (wCons (wEx (wC (.int 1))) (wCons (wSl 1) wNil)))) wNil))) (wPut (.s 0) (.c (.inr "left")))) (wSeq (wRet (wOp oMod (wCons (wEx (wOp oInt (wCons (wSl 2) wNil))) (wCons (wEx (wOp oMax2 (wCons (wEx (wC (.int 1))) (wCons (wSl 1) wNil)))) wNil)))) wNext)) wNext) (wSeq (wAsg (wOp oAdd (wCons (wEx (wPl (.k (.s 0) (.c (.inr "turn"))))) (wCons (wEx (wC (.int 1))) wNil))) (wPut (.s 0) (.c (.inr "turn")))) (wSeq (wAsg (wOp oMod (wCons (wEx (wOp oInt (wCons (wEx (wOp oAdd (wCons (wEx (wPl (.k (.s 0) (.c (.inr "mixed"))))) (wCons (wEx (wOp oMul (wCons (wEx (wPl (.k (.s 0) (.c (.inr "turn"))))) (wCons (wEx (wC (.int 104729))) wNil)))) wNil)))) wNil))) (wCons (wEx (wC (.int 998244353))) wNil))) (wNmG 3)) (wSeq (wAsg (wOp oMod (wCons (wEx (wOp oInt (wCons (wEx (wOp oAdd (wCons (wEx (wOp oMul (wCons (wSl 3) (wCons (wSl 3) wNil)))) (wCons (wEx (wOp oMul (wCons (wEx (wPl (.k (.s 0) (.c (.inr "turn"))))) (wCons (wEx (wC (.int 17))) wNil)))) wNil)))) wNil))) (wCons (wEx (wC (.int 2147483647))) wNil))) (wNmG 3)) (wSeq (wAsg (wVar 3) (wPut (.s 0) (.c (.inr "mixed")))) (wSeq (wRet (wOp oMod (wCons (wEx (wOp oInt (wCons (wEx (wOp oDiv (wCons (wSl 3) (wCons (wEx (wC (.int 16))) wNil)))) wNil))) (wCons (wSl 1) wNil)))) wNext))))))))
theorem w__law_pick {P : Program} {w : World} {K : Frag} {mg : Str → Option Value} {base : Heap} {f : Addr} {cdv : Value} {A : Around} {up : List Env} {s : Shared} {H : Hp} {k : Nat} (hr : Room k (A.deeper (envOfC "_law_pick" (defScope t__law_pick) s.heap.objs.size f cdv))) (hgd : A.guards = some []) (m_int : mg "int" = none) (m_len : mg "len" = none) (m_max : mg "max" = none)   :
    PSs (cxOf CX0 P w K mg base n__law_pick "_law_pick" (defScope t__law_pick) f cdv A up s H fun _ _ _ => False).nox (defBody t__law_pick) (rdS K (Free [.io 2, .val]) b__law_pick) :=
  (snd_seq (snd_while PassesOwn.never (PW.pt (snd_and (snd_tcmp s_gt (snd_sl (pv 1)) (snd_ex c_int) rfl) (snd_and (snd_tcmp (s_lt (u64 hr)) (snd_ex (snd_pl (snd_bk (x := (.c (.inr "left"))) (u1 hr) (snd_bs (pv 0)) pe_str (fun _ _ => rfl)))) (snd_ex c_int) rfl) (snd_and1 (snd_tcmp s_gt (snd_ex (snd_unB s_len rfl m_len boot_len (by decide) (by decide) (snd_bk (x := (.c (.inr "cells"))) (u1 hr) (snd_bs (pv 0)) pe_str (fun _ _ => rfl)) rfl rfl)) (snd_ex c_int) rfl))))) (snd_seq (snd_asg (snd_pop (snd_bk (x := (.c (.inr "cells"))) (u1 hr) (snd_bs (pv 0)) pe_str (fun _ _ => rfl)) rfl rfl) (snd_put (x := (.c (.inr "left"))) (u1 hr) (snd_bs (pv 0)) pe_str (fun _ => rfl)) rfl rfl rfl) snd_snil)) (snd_seq (snd_set (i := 2) sc__law_pick.nd rfl (.inl rfl) (.inl rfl) (free_of rfl) (snd_pl (snd_bk (x := (.c (.inr "left"))) (u1 hr) (snd_bs (pv 0)) pe_str (fun _ _ => rfl))) rfl) (snd_seq (snd_if (PW.pt (snd_or (snd_tcmp (s_lt (u64 hr)) (snd_sl (pv 1)) (snd_ex c_int) rfl) (snd_or1 (snd_tcmp s_gt (snd_sl (pv 2)) (snd_ex c_int) rfl)))) (snd_seq (snd_asg (snd_bin s_div (snd_sl (pv 2)) (snd_ex (snd_callB (s_max2 rfl) rfl m_max Sq.boot_max (by decide) (by decide) (snd_cons (snd_ex c_int) (snd_cons (snd_sl (pv 1)) snd_nil rfl) rfl) rfl rfl))) (snd_put (x := (.c (.inr "left"))) (u1 hr) (snd_bs (pv 0)) pe_str (fun _ => rfl)) rfl rfl rfl) (snd_seq (snd_ret (snd_bin s_mod (snd_ex (snd_callT s_int rfl m_int boot_int (by decide) (by decide) (snd_cons (snd_sl (pv 2)) snd_nil rfl) rfl rfl)) (snd_ex (snd_callB (s_max2 rfl) rfl m_max Sq.boot_max (by decide) (by decide) (snd_cons (snd_ex c_int) (snd_cons (snd_sl (pv 1)) snd_nil rfl) rfl) rfl rfl)))) snd_snil)) snd_snil) (snd_seq (snd_asg (snd_bin s_add (snd_ex (snd_pl (snd_bk (x := (.c (.inr "turn"))) (u1 hr) (snd_bs (pv 0)) pe_str (fun _ _ => rfl)))) (snd_ex c_int)) (snd_put (x := (.c (.inr "turn"))) (u1 hr) (snd_bs (pv 0)) pe_str (fun _ => rfl)) rfl rfl rfl) (snd_seq (snd_set (i := 3) sc__law_pick.nd rfl (.inl rfl) (.inl rfl) (free_of rfl) (snd_bin s_mod (snd_ex (snd_callT s_int rfl m_int boot_int (by decide) (by decide) (snd_cons (snd_ex (snd_bin s_add (snd_ex (snd_pl (snd_bk (x := (.c (.inr "mixed"))) (u1 hr) (snd_bs (pv 0)) pe_str (fun _ _ => rfl)))) (snd_ex (snd_bin s_mul (snd_ex (snd_pl (snd_bk (x := (.c (.inr "turn"))) (u1 hr) (snd_bs (pv 0)) pe_str (fun _ _ => rfl)))) (snd_ex c_int))))) snd_nil rfl) rfl rfl)) (snd_ex c_int)) rfl) (snd_seq (snd_set (i := 3) sc__law_pick.nd rfl (.inl rfl) (.inl rfl) (free_of rfl) (snd_bin s_mod (snd_ex (snd_callT s_int rfl m_int boot_int (by decide) (by decide) (snd_cons (snd_ex (snd_bin s_add (snd_ex (snd_bin s_mul (snd_sl (pv 3)) (snd_sl (pv 3)))) (snd_ex (snd_bin s_mul (snd_ex (snd_pl (snd_bk (x := (.c (.inr "turn"))) (u1 hr) (snd_bs (pv 0)) pe_str (fun _ _ => rfl)))) (snd_ex c_int))))) snd_nil rfl) rfl rfl)) (snd_ex c_int)) rfl) (snd_seq (snd_asg (snd_var (pv 3)) (snd_put (x := (.c (.inr "mixed"))) (u1 hr) (snd_bs (pv 0)) pe_str (fun _ => rfl)) rfl rfl rfl) (snd_seq (snd_ret (snd_bin s_mod (snd_ex (snd_callT s_int rfl m_int boot_int (by decide) (by decide) (snd_cons (snd_ex (snd_bin s_div (snd_sl (pv 3)) (snd_ex c_int))) snd_nil rfl) rfl rfl)) (snd_sl (pv 1)))) snd_snil))))))))
/-! ### _law_of -/
abbrev t__law_of : Stmt := top 13
abbrev n__law_of : List Str := ["source", "some"]
theorem sc__law_of : FnScope n__law_of ["source", "some"] (defScope t__law_of) := ⟨rfl, rfl, rfl, by decide +kernel, rfl, by decide +kernel, by decide +kernel⟩
def b__law_of : WS := (wSeq (wRet (wOp oIx (wCons (wSl 1) (wCons (wEx (wCall F__law_pick (wCons (wSl 0) (wCons (wEx (wOp oLen (wCons (wSl 1) wNil))) wNil)))) wNil)))) wNext)
theorem w__law_of {P : Program} {w : World} {K : Frag} {mg : Str → Option Value} {base : Heap} {f : Addr} {cdv : Value} {A : Around} {up : List Env} {s : Shared} {H : Hp} {k : Nat} (hr : Room k (A.deeper (envOfC "_law_of" (defScope t__law_of) s.heap.objs.size f cdv))) (hgd : A.guards = some []) (m_len : mg "len" = none)  (c__law_pick : CalS P w K mg base k "_law_pick" F__law_pick) :
    PSs (cxOf CX0 P w K mg base n__law_of "_law_of" (defScope t__law_of) f cdv A up s H fun _ _ _ => False).nox (defBody t__law_of) (rdS K (Free [.io 2, .val]) b__law_of) :=
  (snd_seq (snd_ret (snd_ix (snd_sl (pv 1)) (snd_ex (snd_call c__law_pick hr hgd rfl (snd_cons (snd_sl (pv 0)) (snd_cons (snd_ex (snd_callB s_len rfl m_len boot_len (by decide) (by decide) (snd_cons (snd_sl (pv 1)) snd_nil rfl) rfl rfl)) snd_nil rfl) rfl) (by decide) rfl rfl)) (fun _ _ => rfl))) snd_snil)
/-! ### _law_starts -/
abbrev t__law_starts : Stmt := top 15
abbrev n__law_starts : List Str := ["row", "t"]
theorem sc__law_starts : FnScope n__law_starts ["row"] (defScope t__law_starts) := ⟨rfl, rfl, rfl, by decide +kernel, rfl, by decide +kernel, by decide +kernel⟩
def b__law_starts : WS := (wSeq (wRet (wOp oSum (wCons (wEx (wComp (wiRange1 (wOp oLen (wCons (wSl 0) wNil))) (wNmG 1) wYes (wOp oMax2 (wCons (wEx (wC (.int 0))) (wCons (wEx (wOp oSub (wCons (wEx (wOp oIx (wCons (wSl 0) (wCons (wSl 1) wNil)))) (wCons (wEx (wIte (wT (wOp oGt (wCons (wSl 1) (wCons (wEx (wC (.int 0))) wNil)))) (wOp oIx (wCons (wSl 0) (wCons (wEx (wOp oSub (wCons (wSl 1) (wCons (wEx (wC (.int 1))) wNil)))) wNil))) (wC (.int 0)))) wNil)))) wNil))) [1] 0)) wNil))) wNext)
theorem w__law_starts {P : Program} {w : World} {K : Frag} {mg : Str → Option Value} {base : Heap} {f : Addr} {cdv : Value} {A : Around} {up : List Env} {s : Shared} {H : Hp} {k : Nat} (hr : Room k (A.deeper (envOfC "_law_starts" (defScope t__law_starts) s.heap.objs.size f cdv))) (hgd : A.guards = some []) (m_len : mg "len" = none) (m_max : mg "max" = none) (m_range : mg "range" = none) (m_sum : mg "sum" = none)   :
    PSs (cxOf CX0 P w K mg base n__law_starts "_law_starts" (defScope t__law_starts) f cdv A up s H fun _ _ _ => False).nox (defBody t__law_starts) (rdS K (Free [.val]) b__law_starts) :=
  (snd_seq (snd_ret (snd_callB (s_sum rfl) rfl m_sum boot_sum' (by decide) (by decide) (snd_cons (snd_ex (snd_comp (own := [("t", 1)]) (k := 0) rfl sc__law_starts.nd (snd_range1 rfl m_range (snd_callB s_len rfl m_len boot_len (by decide) (by decide) (snd_cons (snd_sl (pv 0)) snd_nil rfl) rfl rfl) rfl) (blkOk_by (N := n__law_starts) (sc := defScope t__law_starts) (by decide +kernel)) (fun _ _ _ _ _ => (snd_nm (i := 1) sc__law_starts.nd rfl (.inl rfl) (.inr rfl) (by decide))) (fun _ _ _ _ _ => snd_yes) (fun _ _ _ _ _ => (snd_callB (s_max2 rfl) rfl m_max Sq.boot_max (by decide) (by decide) (snd_cons (snd_ex c_int) (snd_cons (snd_ex (snd_bin s_sub (snd_ex (snd_ix (snd_sl (pv 0)) (snd_sl (pv 1)) (fun _ _ => rfl))) (snd_ex (snd_ite (snd_tcmp s_gt (snd_sl (pv 1)) (snd_ex c_int) rfl) (snd_ix (snd_sl (pv 0)) (snd_ex (snd_bin s_sub (snd_sl (pv 1)) (snd_ex c_int))) (fun _ _ => rfl)) c_int)))) snd_nil rfl) rfl) rfl rfl)) (fun _ => rfl))) snd_nil rfl) rfl rfl)) snd_snil)
/-! ### _law_draw_needs -/
abbrev t__law_draw_needs : Stmt := top 16
abbrev n__law_draw_needs : List Str := ["source", "ticks", "most", "way", "found", "ahead", "some"]
theorem sc__law_draw_needs : FnScope n__law_draw_needs ["source", "ticks", "most"] (defScope t__law_draw_needs) := ⟨rfl, rfl, rfl, by decide +kernel, rfl, by decide +kernel, by decide +kernel⟩
def l__law_draw_needs_1 : WS := (wSeq (wIf (wT (wOp oEq (wCons (wSl 3) (wCons (wEx (wC (.int 0))) wNil)))) (wSeq (wExpr (wApp 4 (wFz (wCall F__law_pick (wCons (wSl 0) (wCons (wEx (wOp oAdd (wCons (wSl 2) (wCons (wEx (wC (.int 1))) wNil)))) wNil)))))) wNext) (wSeq (wIf (wT (wOp oEq (wCons (wSl 3) (wCons (wEx (wC (.int 1))) wNil)))) (wSeq (wAsg (wOp oAdd (wCons (wEx (wOp oAdd (wCons (wSl 4) (wCons (wEx (wOp oMul (wCons (wEx (wLst 0 (wCons (wEx (wOp oAdd (wCons (wEx (wC (.int 1))) (wCons (wEx (wCall F__law_pick (wCons (wSl 0) (wCons (wSl 2) wNil)))) wNil)))) wNil))) (wCons (wEx (wOp oAdd (wCons (wEx (wC (.int 1))) (wCons (wEx (wCall F__law_pick (wCons (wSl 0) (wCons (wEx (wC (.int 3))) wNil)))) wNil)))) wNil)))) wNil)))) (wCons (wEx (wOp oMul (wCons (wEx (wLst 0 (wCons (wEx (wC (.int 0))) wNil))) (wCons (wEx (wCall F__law_pick (wCons (wSl 0) (wCons (wEx (wC (.int 9))) wNil)))) wNil)))) wNil))) (wNmG 4)) wNext) (wSeq (wIf (wT (wOp oEq (wCons (wSl 3) (wCons (wEx (wC (.int 2))) wNil)))) (wSeq (wAsg (wFz (wIte (wT (wOp oNe (wCons (wSl 4) (wCons (wEx (wLst 0 wNil)) wNil)))) (wOp oIx (wCons (wSl 4) (wCons (wEx (wOp oNeg (wCons (wEx (wC (.int 1))) wNil))) wNil))) (wCall F__law_pick (wCons (wSl 0) (wCons (wEx (wOp oAdd (wCons (wSl 2) (wCons (wEx (wC (.int 1))) wNil)))) wNil))))) (wNmG 5)) (wSeq (wExpr (wApp 4 (wOp oMin2 (wCons (wSl 2) (wCons (wEx (wOp oMax2 (wCons (wEx (wC (.int 0))) (wCons (wEx (wOp oSub (wCons (wEx (wOp oAdd (wCons (wSl 5) (wCons (wEx (wCall F__law_pick (wCons (wSl 0) (wCons (wEx (wC (.int 5))) wNil)))) wNil)))) (wCons (wEx (wC (.int 2))) wNil)))) wNil)))) wNil))))) wNext)) (wSeq (wAsg (wFz (wLst 0 (wCons (wEx (wC (.int 0))) (wCons (wEx (wC (.int 0))) (wCons (wEx (wVar 2)) (wCons (wEx (wFz (wCall F__law_pick (wCons (wSl 0) (wCons (wEx (wOp oAdd (wCons (wSl 2) (wCons (wEx (wC (.int 1))) wNil)))) wNil))))) wNil)))))) (wNmG 6)) (wSeq (wAsg (wOp oAdd (wCons (wSl 4) (wCons (wEx (wOp oMul (wCons (wEx (wLst 0 (wCons (wEx (wFz (wCall F__law_of (wCons (wSl 0) (wCons (wSl 6) wNil))))) wNil))) (wCons (wEx (wOp oAdd (wCons (wEx (wC (.int 1))) (wCons (wEx (wCall F__law_pick (wCons (wSl 0) (wCons (wEx (wC (.int 4))) wNil)))) wNil)))) wNil)))) wNil))) (wNmG 4)) wNext))) wNext)) wNext)) wNext)
def b__law_draw_needs : WS := (wSeq (wPar [3, 4] (wCons (wEx (wFz (wCall F__law_pick (wCons (wSl 0) (wCons (wEx (wC (.int 4))) wNil))))) (wCons (wEx (wLst 0 wNil)) wNil))) (wSeq (wWhile (wT (wOp oLt (wCons (wEx (wOp oLen (wCons (wSl 4) wNil))) (wCons (wSl 1) wNil)))) l__law_draw_needs_1) (wSeq (wRet (wOp oTuple (wCons (wEx (wCut (wSl 4) wP0 (wP1 (wVar 1)))) wNil))) wNext)))
theorem w__law_draw_needs {P : Program} {w : World} {K : Frag} {mg : Str → Option Value} {base : Heap} {f : Addr} {cdv : Value} {A : Around} {up : List Env} {s : Shared} {H : Hp} {k : Nat} (hr : Room k (A.deeper (envOfC "_law_draw_needs" (defScope t__law_draw_needs) s.heap.objs.size f cdv))) (hgd : A.guards = some []) (m_len : mg "len" = none) (m_max : mg "max" = none) (m_min : mg "min" = none) (m_tuple : mg "tuple" = none)  (c__law_pick : CalS P w K mg base k "_law_pick" F__law_pick) (c__law_of : CalS P w K mg base k "_law_of" F__law_of) :
    PSs (cxOf CX0 P w K mg base n__law_draw_needs "_law_draw_needs" (defScope t__law_draw_needs) f cdv A up s H fun _ _ _ => False).nox (defBody t__law_draw_needs) (rdS K (Free [.io 2, .val, .val]) b__law_draw_needs) :=
  (snd_seq (snd_par2 (i := 3) (j := 4) rfl sc__law_draw_needs.nd rfl rfl (by decide) rfl rfl ⟨free_of rfl, free_of rfl⟩ (snd_cons (snd_ex (snd_fz (snd_call c__law_pick hr hgd rfl (snd_cons (snd_sl (pv 0)) (snd_cons (snd_ex c_int) snd_nil rfl) rfl) (by decide) rfl rfl))) (snd_cons (snd_ex (snd_lst (k := 0) snd_nil)) snd_nil rfl) rfl) rfl rfl) (snd_seq (snd_while PassesOwn.never (snd_tcmp (s_lt (u64 hr)) (snd_ex (snd_callB s_len rfl m_len boot_len (by decide) (by decide) (snd_cons (snd_sl (pv 4)) snd_nil rfl) rfl rfl)) (snd_sl (pv 1)) rfl) (snd_seq (snd_if (snd_tcmp (s_eq (u64 hr)) (snd_sl (pv 3)) (snd_ex c_int) rfl) (snd_seq (snd_expr (snd_app (pv 4) (snd_fz (snd_call c__law_pick hr hgd rfl (snd_cons (snd_sl (pv 0)) (snd_cons (snd_ex (snd_bin s_add (snd_sl (pv 2)) (snd_ex c_int))) snd_nil rfl) rfl) (by decide) rfl rfl)) rfl rfl rfl rfl rfl) rfl) snd_snil) (snd_seq (snd_if (snd_tcmp (s_eq (u64 hr)) (snd_sl (pv 3)) (snd_ex c_int) rfl) (snd_seq (snd_set (i := 4) sc__law_draw_needs.nd rfl (.inl rfl) (.inl rfl) (free_of rfl) (snd_bin s_add (snd_ex (snd_bin s_add (snd_sl (pv 4)) (snd_ex (snd_bin s_mul (snd_ex (snd_lst (k := 0) (snd_cons (snd_ex (snd_bin s_add (snd_ex c_int) (snd_ex (snd_call c__law_pick hr hgd rfl (snd_cons (snd_sl (pv 0)) (snd_cons (snd_sl (pv 2)) snd_nil rfl) rfl) (by decide) rfl rfl)))) snd_nil rfl))) (snd_ex (snd_bin s_add (snd_ex c_int) (snd_ex (snd_call c__law_pick hr hgd rfl (snd_cons (snd_sl (pv 0)) (snd_cons (snd_ex c_int) snd_nil rfl) rfl) (by decide) rfl rfl)))))))) (snd_ex (snd_bin s_mul (snd_ex (snd_lst (k := 0) (snd_cons (snd_ex c_int) snd_nil rfl))) (snd_ex (snd_call c__law_pick hr hgd rfl (snd_cons (snd_sl (pv 0)) (snd_cons (snd_ex c_int) snd_nil rfl) rfl) (by decide) rfl rfl))))) rfl) snd_snil) (snd_seq (snd_if (snd_tcmp (s_eq (u64 hr)) (snd_sl (pv 3)) (snd_ex c_int) rfl) (snd_seq (snd_set (i := 5) sc__law_draw_needs.nd rfl (.inl rfl) (.inl rfl) (free_of rfl) (snd_fz (snd_ite (snd_tcmp (s_ne (u64 hr)) (snd_sl (pv 4)) (snd_ex (snd_lst (k := 0) snd_nil)) rfl) (snd_ix (snd_sl (pv 4)) (snd_ex (snd_neg (snd_ex c_int))) (fun _ _ => rfl)) (snd_call c__law_pick hr hgd rfl (snd_cons (snd_sl (pv 0)) (snd_cons (snd_ex (snd_bin s_add (snd_sl (pv 2)) (snd_ex c_int))) snd_nil rfl) rfl) (by decide) rfl rfl))) rfl) (snd_seq (snd_expr (snd_app (pv 4) (snd_callB (s_min2 rfl) rfl m_min Sq.boot_min (by decide) (by decide) (snd_cons (snd_sl (pv 2)) (snd_cons (snd_ex (snd_callB (s_max2 rfl) rfl m_max Sq.boot_max (by decide) (by decide) (snd_cons (snd_ex c_int) (snd_cons (snd_ex (snd_bin s_sub (snd_ex (snd_bin s_add (snd_sl (pv 5)) (snd_ex (snd_call c__law_pick hr hgd rfl (snd_cons (snd_sl (pv 0)) (snd_cons (snd_ex c_int) snd_nil rfl) rfl) (by decide) rfl rfl)))) (snd_ex c_int))) snd_nil rfl) rfl) rfl rfl)) snd_nil rfl) rfl) rfl rfl) rfl rfl rfl rfl rfl) rfl) snd_snil)) (snd_seq (snd_set (i := 6) sc__law_draw_needs.nd rfl (.inl rfl) (.inl rfl) (free_of rfl) (snd_fz (snd_lst (k := 0) (snd_cons (snd_ex c_int) (snd_cons (snd_ex c_int) (snd_cons (snd_ex (snd_var (pv 2))) (snd_cons (snd_ex (snd_fz (snd_call c__law_pick hr hgd rfl (snd_cons (snd_sl (pv 0)) (snd_cons (snd_ex (snd_bin s_add (snd_sl (pv 2)) (snd_ex c_int))) snd_nil rfl) rfl) (by decide) rfl rfl))) snd_nil rfl) rfl) rfl) rfl))) rfl) (snd_seq (snd_set (i := 4) sc__law_draw_needs.nd rfl (.inl rfl) (.inl rfl) (free_of rfl) (snd_bin s_add (snd_sl (pv 4)) (snd_ex (snd_bin s_mul (snd_ex (snd_lst (k := 0) (snd_cons (snd_ex (snd_fz (snd_call c__law_of hr hgd rfl (snd_cons (snd_sl (pv 0)) (snd_cons (snd_sl (pv 6)) snd_nil rfl) rfl) (by decide) rfl rfl))) snd_nil rfl))) (snd_ex (snd_bin s_add (snd_ex c_int) (snd_ex (snd_call c__law_pick hr hgd rfl (snd_cons (snd_sl (pv 0)) (snd_cons (snd_ex c_int) snd_nil rfl) rfl) (by decide) rfl rfl))))))) rfl) snd_snil))) snd_snil)) snd_snil)) snd_snil)) (snd_seq (snd_ret (snd_callT s_tuple rfl m_tuple boot_tuple (by decide) (by decide) (snd_cons (snd_ex (snd_cut (snd_sl (pv 4)) snd_p0 (snd_p1 (snd_var (pv 1))))) snd_nil rfl) rfl rfl)) snd_snil)))
/-! ### _law_gaps -/
abbrev t__law_gaps : Stmt := top 17
abbrev n__law_gaps : List Str := ["needs", "k", "on", "t", "a", "b"]
theorem sc__law_gaps : FnScope n__law_gaps ["needs", "k"] (defScope t__law_gaps) := ⟨rfl, rfl, rfl, by decide +kernel, rfl, by decide +kernel, by decide +kernel⟩
def b__law_gaps : WS := (wSeq (wAsg (wFz (wComp (wiRange1 (wOp oLen (wCons (wSl 0) wNil))) (wNmG 3) (wT (wOp oGe (wCons (wEx (wOp oIx (wCons (wSl 0) (wCons (wSl 3) wNil)))) (wCons (wSl 1) wNil)))) (wVar 3) [3] 0)) (wNmG 2)) (wSeq (wRet (wFz (wComp (wiZip (wSl 2) (wEx (wCut (wSl 2) (wP1 (wC (.int 1))) wP0))) (wTp 2 (wGc (wNmG 4) (wGc (wNmG 5) wGn))) (wT (wOp oGt (wCons (wSl 5) (wCons (wEx (wOp oAdd (wCons (wSl 4) (wCons (wEx (wC (.int 1))) wNil)))) wNil)))) (wTup (wCons (wEx (wOp oAdd (wCons (wSl 4) (wCons (wEx (wC (.int 1))) wNil)))) (wCons (wEx (wOp oSub (wCons (wEx (wOp oSub (wCons (wSl 5) (wCons (wSl 4) wNil)))) (wCons (wEx (wC (.int 1))) wNil)))) wNil))) [4, 5] 0))) wNext))
theorem w__law_gaps {P : Program} {w : World} {K : Frag} {mg : Str → Option Value} {base : Heap} {f : Addr} {cdv : Value} {A : Around} {up : List Env} {s : Shared} {H : Hp} {k : Nat} (hr : Room k (A.deeper (envOfC "_law_gaps" (defScope t__law_gaps) s.heap.objs.size f cdv))) (hgd : A.guards = some []) (m_len : mg "len" = none) (m_range : mg "range" = none) (m_zip : mg "zip" = none)   :
    PSs (cxOf CX0 P w K mg base n__law_gaps "_law_gaps" (defScope t__law_gaps) f cdv A up s H fun _ _ _ => False).nox (defBody t__law_gaps) (rdS K (Free [.val, .val]) b__law_gaps) :=
  (snd_seq (snd_setCompF (i := 2) (own := [("t", 3)]) (k := 0) rfl sc__law_gaps.nd rfl rfl (free_of rfl) rfl (snd_range1 rfl m_range (snd_callB s_len rfl m_len boot_len (by decide) (by decide) (snd_cons (snd_sl (pv 0)) snd_nil rfl) rfl rfl) rfl) (blkOk_by (N := n__law_gaps) (sc := defScope t__law_gaps) (by decide +kernel)) (fun _ _ _ _ _ => (snd_nm (i := 3) sc__law_gaps.nd rfl (.inl rfl) (.inr rfl) (by decide))) (fun _ _ _ _ _ => (snd_ift (snd_tcmp s_ge (snd_ex (snd_ix (snd_sl (pv 0)) (snd_sl (pv 3)) (fun _ _ => rfl))) (snd_sl (pv 1)) rfl))) (fun _ _ _ _ _ => (snd_var (pv 3))) (fun _ => rfl)) (snd_seq (snd_ret (snd_fz (snd_comp (own := [("a", 4), ("b", 5)]) (k := 0) rfl sc__law_gaps.nd (snd_zipI rfl m_zip (snd_sl (pv 2)) (snd_ex (snd_cut (snd_sl (pv 2)) (snd_p1 c_int) snd_p0)) rfl rfl rfl) (blkOk_by (N := n__law_gaps) (sc := defScope t__law_gaps) (by decide +kernel)) (fun _ _ _ _ _ => (snd_tp (k := 2) rfl (snd_gc (snd_nm (i := 4) sc__law_gaps.nd rfl (.inl rfl) (.inr rfl) (by decide)) (snd_gc (snd_nm (i := 5) sc__law_gaps.nd rfl (.inl rfl) (.inr rfl) (by decide)) snd_gn rfl) rfl) rfl rfl)) (fun _ _ _ _ _ => (snd_ift (snd_tcmp s_gt (snd_sl (pv 5)) (snd_ex (snd_bin s_add (snd_sl (pv 4)) (snd_ex c_int))) rfl))) (fun _ _ _ _ _ => (snd_tup (snd_cons (snd_ex (snd_bin s_add (snd_sl (pv 4)) (snd_ex c_int))) (snd_cons (snd_ex (snd_bin s_sub (snd_ex (snd_bin s_sub (snd_sl (pv 5)) (snd_sl (pv 4)))) (snd_ex c_int))) snd_nil rfl) rfl))) (fun _ => rfl)))) snd_snil))
/-! ### _law_layers_cost -/
abbrev t__law_layers_cost : Stmt := top 18
abbrev n__law_layers_cost : List Str := ["needs", "b", "found", "k", "begin", "length"]
theorem sc__law_layers_cost : FnScope n__law_layers_cost ["needs", "b"] (defScope t__law_layers_cost) := ⟨rfl, rfl, rfl, by decide +kernel, rfl, by decide +kernel, by decide +kernel⟩
def l__law_layers_cost_1 : WS := (wSeq (wAsg (wOp oAdd (wCons (wEx (wOp oAdd (wCons (wSl 2) (wCons (wSl 1) wNil)))) (wCons (wEx (wOp oSum (wCons (wEx (wComp (wiSeq (wEx (wCall F__law_gaps (wCons (wSl 0) (wCons (wSl 3) wNil))))) (wTp 2 (wGc (wNmG 4) (wGc (wNmG 5) wGn))) wYes (wOp oMin2 (wCons (wSl 5) (wCons (wSl 1) wNil))) [4, 5] 0)) wNil))) wNil))) (wNmG 2)) wNext)
def b__law_layers_cost : WS := (wSeq (wAsg (wOp oSum (wCons (wSl 0) wNil)) (wNmG 2)) (wSeq (wFor (wiRange2 (wC (.int 1)) (wOp oAdd (wCons (wEx (wOp oMax1 (wCons (wEx (wOp oAdd (wCons (wEx (wLst 0 (wCons (wEx (wC (.int 0))) wNil))) (wCons (wEx (wOp oList (wCons (wSl 0) wNil))) wNil)))) wNil))) (wCons (wEx (wC (.int 1))) wNil)))) (wNmG 3) l__law_layers_cost_1) (wSeq (wRet (wVar 2)) wNext)))
theorem w__law_layers_cost {P : Program} {w : World} {K : Frag} {mg : Str → Option Value} {base : Heap} {f : Addr} {cdv : Value} {A : Around} {up : List Env} {s : Shared} {H : Hp} {k : Nat} (hr : Room k (A.deeper (envOfC "_law_layers_cost" (defScope t__law_layers_cost) s.heap.objs.size f cdv))) (hgd : A.guards = some []) (m_list : mg "list" = none) (m_max : mg "max" = none) (m_min : mg "min" = none) (m_range : mg "range" = none) (m_sum : mg "sum" = none)  (c__law_gaps : CalS P w K mg base k "_law_gaps" F__law_gaps) :
    PSs (cxOf CX0 P w K mg base n__law_layers_cost "_law_layers_cost" (defScope t__law_layers_cost) f cdv A up s H fun _ _ _ => False).nox (defBody t__law_layers_cost) (rdS K (Free [.val, .val]) b__law_layers_cost) :=
  (snd_seq (snd_set (i := 2) sc__law_layers_cost.nd rfl (.inl rfl) (.inl rfl) (free_of rfl) (snd_callB (s_sum rfl) rfl m_sum boot_sum' (by decide) (by decide) (snd_cons (snd_sl (pv 0)) snd_nil rfl) rfl rfl) rfl) (snd_seq (snd_for PassesOwn.never rfl (snd_range2 rfl m_range c_int (snd_bin s_add (snd_ex (snd_callB (s_max1 rfl) rfl m_max Sq.boot_max (by decide) (by decide) (snd_cons (snd_ex (snd_bin s_add (snd_ex (snd_lst (k := 0) (snd_cons (snd_ex c_int) snd_nil rfl))) (snd_ex (snd_callT s_list rfl m_list boot_list (by decide) (by decide) (snd_cons (snd_sl (pv 0)) snd_nil rfl) rfl rfl)))) snd_nil rfl) rfl rfl)) (snd_ex c_int)) rfl rfl) (snd_nm (i := 3) sc__law_layers_cost.nd rfl (.inl rfl) (.inl rfl) (free_of rfl)) (snd_seq (snd_set (i := 2) sc__law_layers_cost.nd rfl (.inl rfl) (.inl rfl) (free_of rfl) (snd_bin s_add (snd_ex (snd_bin s_add (snd_sl (pv 2)) (snd_sl (pv 1)))) (snd_ex (snd_callB (s_sum rfl) rfl m_sum boot_sum' (by decide) (by decide) (snd_cons (snd_ex (snd_comp (own := [("begin", 4), ("length", 5)]) (k := 0) rfl sc__law_layers_cost.nd (snd_seqI (snd_ex (snd_call c__law_gaps hr hgd rfl (snd_cons (snd_sl (pv 0)) (snd_cons (snd_sl (pv 3)) snd_nil rfl) rfl) (by decide) rfl rfl))) (blkOk_by (N := n__law_layers_cost) (sc := defScope t__law_layers_cost) (by decide +kernel)) (fun _ _ _ _ _ => (snd_tp (k := 2) rfl (snd_gc (snd_nm (i := 4) sc__law_layers_cost.nd rfl (.inl rfl) (.inr rfl) (by decide)) (snd_gc (snd_nm (i := 5) sc__law_layers_cost.nd rfl (.inl rfl) (.inr rfl) (by decide)) snd_gn rfl) rfl) rfl rfl)) (fun _ _ _ _ _ => snd_yes) (fun _ _ _ _ _ => (snd_callB (s_min2 rfl) rfl m_min Sq.boot_min (by decide) (by decide) (snd_cons (snd_sl (pv 5)) (snd_cons (snd_sl (pv 1)) snd_nil rfl) rfl) rfl rfl)) (fun _ => rfl))) snd_nil rfl) rfl rfl))) rfl) snd_snil) (fun _ => rfl)) (snd_seq (snd_ret (snd_var (pv 2))) snd_snil)))
/-! ### _law_some_sight -/
abbrev t__law_some_sight : Stmt := top 19
abbrev n__law_some_sight : List Str := ["source", "most", "b"]
theorem sc__law_some_sight : FnScope n__law_some_sight ["source", "most"] (defScope t__law_some_sight) := ⟨rfl, rfl, rfl, by decide +kernel, rfl, by decide +kernel, by decide +kernel⟩
def b__law_some_sight : WS := (wSeq (wAsg (wOp oAdd (wCons (wEx (wC (.int 1))) (wCons (wEx (wCall F__law_pick (wCons (wSl 0) (wCons (wSl 1) wNil)))) wNil))) (wNmG 2)) (wSeq (wRet (wTup (wCons (wEx (wVar 2)) (wCons (wEx (wFz (wCall F__law_of (wCons (wSl 0) (wCons (wEx (wFz (wLst 0 (wCons (wEx (wC (.int 0))) (wCons (wEx (wOp oSub (wCons (wSl 2) (wCons (wEx (wC (.int 1))) wNil)))) (wCons (wEx (wFz (wCall F__law_pick (wCons (wSl 0) (wCons (wSl 2) wNil))))) wNil)))))) wNil))))) wNil)))) wNext))
theorem w__law_some_sight {P : Program} {w : World} {K : Frag} {mg : Str → Option Value} {base : Heap} {f : Addr} {cdv : Value} {A : Around} {up : List Env} {s : Shared} {H : Hp} {k : Nat} (hr : Room k (A.deeper (envOfC "_law_some_sight" (defScope t__law_some_sight) s.heap.objs.size f cdv))) (hgd : A.guards = some [])   (c__law_pick : CalS P w K mg base k "_law_pick" F__law_pick) (c__law_of : CalS P w K mg base k "_law_of" F__law_of) :
    PSs (cxOf CX0 P w K mg base n__law_some_sight "_law_some_sight" (defScope t__law_some_sight) f cdv A up s H fun _ _ _ => False).nox (defBody t__law_some_sight) (rdS K (Free [.io 2, .val]) b__law_some_sight) :=
  (snd_seq (snd_set (i := 2) sc__law_some_sight.nd rfl (.inl rfl) (.inl rfl) (free_of rfl) (snd_bin s_add (snd_ex c_int) (snd_ex (snd_call c__law_pick hr hgd rfl (snd_cons (snd_sl (pv 0)) (snd_cons (snd_sl (pv 1)) snd_nil rfl) rfl) (by decide) rfl rfl))) rfl) (snd_seq (snd_ret (snd_tup (snd_cons (snd_ex (snd_var (pv 2))) (snd_cons (snd_ex (snd_fz (snd_call c__law_of hr hgd rfl (snd_cons (snd_sl (pv 0)) (snd_cons (snd_ex (snd_fz (snd_lst (k := 0) (snd_cons (snd_ex c_int) (snd_cons (snd_ex (snd_bin s_sub (snd_sl (pv 2)) (snd_ex c_int))) (snd_cons (snd_ex (snd_fz (snd_call c__law_pick hr hgd rfl (snd_cons (snd_sl (pv 0)) (snd_cons (snd_sl (pv 2)) snd_nil rfl) rfl) (by decide) rfl rfl))) snd_nil rfl) rfl) rfl)))) snd_nil rfl) rfl) (by decide) rfl rfl))) snd_nil rfl) rfl))) snd_snil))
/-! ### _law_need_price -/
abbrev t__law_need_price : Stmt := top 20
abbrev n__law_need_price : List Str := ["row", "b"]
theorem sc__law_need_price : FnScope n__law_need_price ["row", "b"] (defScope t__law_need_price) := ⟨rfl, rfl, rfl, by decide +kernel, rfl, by decide +kernel, by decide +kernel⟩
def b__law_need_price : WS := (wSeq (wRet (wOp oAdd (wCons (wEx (wOp oSum (wCons (wSl 0) wNil))) (wCons (wEx (wOp oMul (wCons (wSl 1) (wCons (wEx (wCall F__law_starts (wCons (wSl 0) wNil))) wNil)))) wNil)))) wNext)
theorem w__law_need_price {P : Program} {w : World} {K : Frag} {mg : Str → Option Value} {base : Heap} {f : Addr} {cdv : Value} {A : Around} {up : List Env} {s : Shared} {H : Hp} {k : Nat} (hr : Room k (A.deeper (envOfC "_law_need_price" (defScope t__law_need_price) s.heap.objs.size f cdv))) (hgd : A.guards = some []) (m_sum : mg "sum" = none)  (c__law_starts : CalS P w K mg base k "_law_starts" F__law_starts) :
    PSs (cxOf CX0 P w K mg base n__law_need_price "_law_need_price" (defScope t__law_need_price) f cdv A up s H fun _ _ _ => False).nox (defBody t__law_need_price) (rdS K (Free [.val, .val]) b__law_need_price) :=
  (snd_seq (snd_ret (snd_bin s_add (snd_ex (snd_callB (s_sum rfl) rfl m_sum boot_sum' (by decide) (by decide) (snd_cons (snd_sl (pv 0)) snd_nil rfl) rfl rfl)) (snd_ex (snd_bin s_mul (snd_sl (pv 1)) (snd_ex (snd_call c__law_starts hr hgd rfl (snd_cons (snd_sl (pv 0)) snd_nil rfl) (by decide) rfl rfl)))))) snd_snil)
/-! ### _law_worst -/
abbrev t__law_worst : Stmt := top 21
abbrev n__law_worst : List Str := ["source", "b", "found", "laps", "high", "lap"]
theorem sc__law_worst : FnScope n__law_worst ["source", "b"] (defScope t__law_worst) := ⟨rfl, rfl, rfl, by decide +kernel, rfl, by decide +kernel, by decide +kernel⟩
def l__law_worst_1 : WS := (wSeq (wAsg (wOp oAdd (wCons (wEx (wOp oAdd (wCons (wSl 2) (wCons (wEx (wTup (wCons (wEx (wVar 4)) wNil))) wNil)))) (wCons (wEx (wOp oMulT (wCons (wEx (wTup (wCons (wEx (wC (.int 0))) wNil))) (wCons (wEx (wOp oAdd (wCons (wSl 1) (wCons (wEx (wCall F__law_pick (wCons (wSl 0) (wCons (wEx (wC (.int 4))) wNil)))) wNil)))) wNil)))) wNil))) (wNmG 2)) wNext)
def b__law_worst : WS := (wSeq (wPar [2, 3, 4] (wCons (wEx (wTup wNil)) (wCons (wEx (wOp oAdd (wCons (wEx (wC (.int 1))) (wCons (wEx (wCall F__law_pick (wCons (wSl 0) (wCons (wEx (wC (.int 5))) wNil)))) wNil)))) (wCons (wEx (wOp oAdd (wCons (wEx (wC (.int 1))) (wCons (wEx (wCall F__law_pick (wCons (wSl 0) (wCons (wEx (wC (.int 3))) wNil)))) wNil)))) wNil)))) (wSeq (wFor (wiRange1 (wVar 3)) (wNmG 5) l__law_worst_1) (wSeq (wRet (wTup (wCons (wEx (wVar 2)) (wCons (wEx (wVar 3)) (wCons (wEx (wVar 4)) wNil))))) wNext)))
theorem w__law_worst {P : Program} {w : World} {K : Frag} {mg : Str → Option Value} {base : Heap} {f : Addr} {cdv : Value} {A : Around} {up : List Env} {s : Shared} {H : Hp} {k : Nat} (hr : Room k (A.deeper (envOfC "_law_worst" (defScope t__law_worst) s.heap.objs.size f cdv))) (hgd : A.guards = some []) (m_range : mg "range" = none)  (c__law_pick : CalS P w K mg base k "_law_pick" F__law_pick) :
    PSs (cxOf CX0 P w K mg base n__law_worst "_law_worst" (defScope t__law_worst) f cdv A up s H fun _ _ _ => False).nox (defBody t__law_worst) (rdS K (Free [.io 2, .val]) b__law_worst) :=
  (snd_seq (snd_par3 (i := 2) (j := 3) (l := 4) rfl sc__law_worst.nd rfl rfl rfl (by decide) (by decide) (by decide) rfl rfl rfl ⟨free_of rfl, free_of rfl, free_of rfl⟩ (snd_cons (snd_ex (snd_tup snd_nil)) (snd_cons (snd_ex (snd_bin s_add (snd_ex c_int) (snd_ex (snd_call c__law_pick hr hgd rfl (snd_cons (snd_sl (pv 0)) (snd_cons (snd_ex c_int) snd_nil rfl) rfl) (by decide) rfl rfl)))) (snd_cons (snd_ex (snd_bin s_add (snd_ex c_int) (snd_ex (snd_call c__law_pick hr hgd rfl (snd_cons (snd_sl (pv 0)) (snd_cons (snd_ex c_int) snd_nil rfl) rfl) (by decide) rfl rfl)))) snd_nil rfl) rfl) rfl) rfl rfl) (snd_seq (snd_for PassesOwn.never rfl (snd_range1 rfl m_range (snd_var (pv 3)) rfl) (snd_nm (i := 5) sc__law_worst.nd rfl (.inl rfl) (.inl rfl) (free_of rfl)) (snd_seq (snd_set (i := 2) sc__law_worst.nd rfl (.inl rfl) (.inl rfl) (free_of rfl) (snd_bin s_add (snd_ex (snd_bin s_add (snd_sl (pv 2)) (snd_ex (snd_tup (snd_cons (snd_ex (snd_var (pv 4))) snd_nil rfl))))) (snd_ex (snd_bin s_mulT (snd_ex (snd_tup (snd_cons (snd_ex c_int) snd_nil rfl))) (snd_ex (snd_bin s_add (snd_sl (pv 1)) (snd_ex (snd_call c__law_pick hr hgd rfl (snd_cons (snd_sl (pv 0)) (snd_cons (snd_ex c_int) snd_nil rfl) rfl) (by decide) rfl rfl))))))) rfl) snd_snil) (fun _ => rfl)) (snd_seq (snd_ret (snd_tup (snd_cons (snd_ex (snd_var (pv 2))) (snd_cons (snd_ex (snd_var (pv 3))) (snd_cons (snd_ex (snd_var (pv 4))) snd_nil rfl) rfl) rfl))) snd_snil)))
/-! ### _law_prefixes_right -/
abbrev t__law_prefixes_right : Stmt := top 22
abbrev n__law_prefixes_right : List Str := ["needs", "row", "b", "w", "t", "paid"]
theorem sc__law_prefixes_right : FnScope n__law_prefixes_right ["needs", "row", "b", "w"] (defScope t__law_prefixes_right) := ⟨rfl, rfl, rfl, by decide +kernel, rfl, by decide +kernel, by decide +kernel⟩
def l__law_prefixes_right_1 : WS := (wSeq (wAsg (wFz (wCall F__law_need_price (wCons (wEx (wFz (wCut (wSl 1) wP0 (wP1 (wOp oAdd (wCons (wSl 4) (wCons (wEx (wC (.int 1))) wNil))))))) (wCons (wSl 2) wNil)))) (wNmG 5)) (wSeq (wIf (wT (wOp oGt (wCons (wEx (wOp oMul (wCons (wEx (wOp oAdd (wCons (wSl 2) (wCons (wEx (wC (.int 1))) wNil)))) (wCons (wSl 5) wNil)))) (wCons (wEx (wOp oMul (wCons (wEx (wOp oSub (wCons (wEx (wOp oMul (wCons (wEx (wC (.int 2))) (wCons (wSl 2) wNil)))) (wCons (wSl 3) wNil)))) (wCons (wEx (wCall F__law_layers_cost (wCons (wEx (wFz (wCut (wSl 0) wP0 (wP1 (wOp oAdd (wCons (wEx (wOp oAdd (wCons (wSl 4) (wCons (wSl 3) wNil)))) (wCons (wEx (wC (.int 1))) wNil))))))) (wCons (wSl 2) wNil)))) wNil)))) wNil)))) (wSeq (wRet (wC (.bool false))) wNext) wNext) wNext))
def b__law_prefixes_right : WS := (wSeq (wFor (wiRange1 (wOp oLen (wCons (wSl 0) wNil))) (wNmG 4) l__law_prefixes_right_1) (wSeq (wRet (wC (.bool true))) wNext))
theorem w__law_prefixes_right {P : Program} {w : World} {K : Frag} {mg : Str → Option Value} {base : Heap} {f : Addr} {cdv : Value} {A : Around} {up : List Env} {s : Shared} {H : Hp} {k : Nat} (hr : Room k (A.deeper (envOfC "_law_prefixes_right" (defScope t__law_prefixes_right) s.heap.objs.size f cdv))) (hgd : A.guards = some []) (m_len : mg "len" = none) (m_range : mg "range" = none)  (c__law_need_price : CalS P w K mg base k "_law_need_price" F__law_need_price) (c__law_layers_cost : CalS P w K mg base k "_law_layers_cost" F__law_layers_cost) :
    PSs (cxOf CX0 P w K mg base n__law_prefixes_right "_law_prefixes_right" (defScope t__law_prefixes_right) f cdv A up s H fun _ _ _ => False).nox (defBody t__law_prefixes_right) (rdS K (Free [.val, .val, .val, .val]) b__law_prefixes_right) :=
  (snd_seq (snd_for PassesOwn.never rfl (snd_range1 rfl m_range (snd_callB s_len rfl m_len boot_len (by decide) (by decide) (snd_cons (snd_sl (pv 0)) snd_nil rfl) rfl rfl) rfl) (snd_nm (i := 4) sc__law_prefixes_right.nd rfl (.inl rfl) (.inl rfl) (free_of rfl)) (snd_seq (snd_set (i := 5) sc__law_prefixes_right.nd rfl (.inl rfl) (.inl rfl) (free_of rfl) (snd_fz (snd_call c__law_need_price hr hgd rfl (snd_cons (snd_ex (snd_fz (snd_cut (snd_sl (pv 1)) snd_p0 (snd_p1 (snd_bin s_add (snd_sl (pv 4)) (snd_ex c_int)))))) (snd_cons (snd_sl (pv 2)) snd_nil rfl) rfl) (by decide) rfl rfl)) rfl) (snd_seq (snd_if (snd_tcmp s_gt (snd_ex (snd_bin s_mul (snd_ex (snd_bin s_add (snd_sl (pv 2)) (snd_ex c_int))) (snd_sl (pv 5)))) (snd_ex (snd_bin s_mul (snd_ex (snd_bin s_sub (snd_ex (snd_bin s_mul (snd_ex c_int) (snd_sl (pv 2)))) (snd_sl (pv 3)))) (snd_ex (snd_call c__law_layers_cost hr hgd rfl (snd_cons (snd_ex (snd_fz (snd_cut (snd_sl (pv 0)) snd_p0 (snd_p1 (snd_bin s_add (snd_ex (snd_bin s_add (snd_sl (pv 4)) (snd_sl (pv 3)))) (snd_ex c_int)))))) (snd_cons (snd_sl (pv 2)) snd_nil rfl) rfl) (by decide) rfl rfl)))) rfl) (snd_seq (snd_ret c_bl) snd_snil) snd_snil) snd_snil)) (fun _ => rfl)) (snd_seq (snd_ret c_bl) snd_snil))
/-! ### law -/
abbrev t_law : Stmt := top 23
abbrev n_law : List Str := ["script", "source", "lap", "b", "w", "needs", "row", "least", "price", "worst", "laps", "high", "paid", "x", "need"]
theorem sc_law : FnScope n_law ["script"] (defScope t_law) := ⟨rfl, rfl, rfl, by decide +kernel, rfl, by decide +kernel, by decide +kernel⟩
def l_law_1 : WS := (wSeq (wAsg (wFz (wCall F__law_some_sight (wCons (wSl 1) (wCons (wEx (wOp oIx (wCons (wEx (wLst 0 (wCons (wEx (wC (.int 1))) (wCons (wEx (wC (.int 2))) (wCons (wEx (wC (.int 4))) (wCons (wEx (wC (.int 7))) (wCons (wEx (wC (.int 10))) (wCons (wEx (wC (.int 12))) wNil)))))))) (wCons (wSl 2) wNil)))) wNil)))) (wTp 2 (wGc (wNmG 3) (wGc (wNmG 4) wGn)))) (wSeq (wAsg (wFz (wCall F__law_draw_needs (wCons (wSl 1) (wCons (wEx (wOp oAdd (wCons (wEx (wC (.int 1))) (wCons (wEx (wCall F__law_pick (wCons (wSl 1) (wCons (wEx (wC (.int 26))) wNil)))) wNil)))) (wCons (wEx (wFz (wCall F__law_of (wCons (wSl 1) (wCons (wEx (wFz (wLst 0 (wCons (wEx (wC (.int 1))) (wCons (wEx (wC (.int 3))) (wCons (wEx (wC (.int 5))) wNil)))))) wNil))))) wNil))))) (wNmG 5)) (wSeq (wPar [6, 7] (wCons (wEx (wFz (wCall F_sight_row (wCons (wSl 5) (wCons (wSl 3) (wCons (wSl 4) wNil)))))) (wCons (wEx (wFz (wCall F__law_layers_cost (wCons (wSl 5) (wCons (wSl 3) wNil))))) wNil))) (wSeq (wAsg (wFz (wCall F__law_need_price (wCons (wSl 6) (wCons (wSl 3) wNil)))) (wNmG 8)) (wSeq (wIf (wOrT (wT (wOp oNe (wCons (wEx (wCall F_sight_cost (wCons (wSl 5) (wCons (wSl 3) (wCons (wSl 4) wNil))))) (wCons (wSl 8) wNil)))) (wOrT (wT (wOp oGt (wCons (wEx (wOp oMul (wCons (wEx (wOp oAdd (wCons (wSl 3) (wCons (wEx (wC (.int 1))) wNil)))) (wCons (wSl 8) wNil)))) (wCons (wEx (wOp oMul (wCons (wEx (wOp oSub (wCons (wEx (wOp oMul (wCons (wEx (wC (.int 2))) (wCons (wSl 3) wNil)))) (wCons (wSl 4) wNil)))) (wCons (wSl 7) wNil)))) wNil)))) (wT (wOp oNe (wCons (wEx (wComp (wiZip (wSl 6) (wSl 5)) (wTp 2 (wGc (wNmG 13) (wGc (wNmG 14) wGn))) (wT (wOp oLt (wCons (wSl 13) (wCons (wSl 14) wNil)))) (wC (.int 1)) [13, 14] 0)) (wCons (wEx (wLst 0 wNil)) wNil)))))) (wSeq (wRet (wC (.bool false))) wNext) wNext) (wSeq (wIf (wOrT (wAndT (wT (wOp oEq (wCons (wSl 4) (wCons (wEx (wOp oSub (wCons (wSl 3) (wCons (wEx (wC (.int 1))) wNil)))) wNil)))) (wT (wOp oNe (wCons (wSl 8) (wCons (wSl 7) wNil))))) (wOrT (wT (wOp oLt (wCons (wSl 8) (wCons (wSl 7) wNil)))) (wNotT (wTru (wEx (wCall F__law_prefixes_right (wCons (wSl 5) (wCons (wSl 6) (wCons (wSl 3) (wCons (wSl 4) wNil)))))))))) (wSeq (wRet (wC (.bool false))) wNext) wNext) (wSeq (wAsg (wFz (wCall F__law_worst (wCons (wSl 1) (wCons (wSl 3) wNil)))) (wTp 3 (wGc (wNmG 9) (wGc (wNmG 10) (wGc (wNmG 11) wGn))))) (wSeq (wAsg (wFz (wCall F__law_need_price (wCons (wEx (wFz (wCall F_sight_row (wCons (wSl 9) (wCons (wSl 3) (wCons (wSl 4) wNil)))))) (wCons (wSl 3) wNil)))) (wNmG 8)) (wSeq (wIf (wOrT (wT (wOp oNe (wCons (wSl 8) (wCons (wEx (wOp oMul (wCons (wEx (wOp oMul (wCons (wSl 10) (wCons (wSl 11) wNil)))) (wCons (wEx (wOp oSub (wCons (wEx (wOp oMul (wCons (wEx (wC (.int 2))) (wCons (wSl 3) wNil)))) (wCons (wSl 4) wNil)))) wNil)))) wNil)))) (wT (wOp oNe (wCons (wEx (wOp oMul (wCons (wEx (wOp oAdd (wCons (wSl 3) (wCons (wEx (wC (.int 1))) wNil)))) (wCons (wSl 8) wNil)))) (wCons (wEx (wOp oMul (wCons (wEx (wOp oSub (wCons (wEx (wOp oMul (wCons (wEx (wC (.int 2))) (wCons (wSl 3) wNil)))) (wCons (wSl 4) wNil)))) (wCons (wEx (wCall F__law_layers_cost (wCons (wSl 9) (wCons (wSl 3) wNil)))) wNil)))) wNil))))) (wSeq (wRet (wC (.bool false))) wNext) wNext) wNext)))))))))
def b_law : WS := (wSeq (wAsg (wCall F__law_source (wCons (wSl 0) wNil)) (wNmG 1)) (wSeq (wFor (wiRange1 (wC (.int 6))) (wNmG 2) l_law_1) (wSeq (wAsg (wFz (wCall F__law_need_price (wCons (wEx (wFz (wCut (wEx (wCall F_sight_row (wCons (wEx (wTup (wCons (wEx (wC (.int 1))) (wCons (wEx (wC (.int 0))) (wCons (wEx (wC (.int 1))) wNil))))) (wCons (wEx (wC (.int 2))) (wCons (wEx (wC (.int 1))) wNil))))) wP0 (wP1 (wC (.int 2)))))) (wCons (wEx (wC (.int 2))) wNil)))) (wNmG 12)) (wSeq (wRet (wOp oEq (wCons (wEx (wLst 0 (wCons (wEx (wVar 12)) (wCons (wEx (wFz (wCall F__law_layers_cost (wCons (wEx (wTup (wCons (wEx (wC (.int 1))) (wCons (wEx (wC (.int 0))) wNil)))) (wCons (wEx (wC (.int 2))) wNil))))) (wCons (wEx (wFz (wCall F__law_layers_cost (wCons (wEx (wTup (wCons (wEx (wC (.int 1))) (wCons (wEx (wC (.int 0))) (wCons (wEx (wC (.int 1))) wNil))))) (wCons (wEx (wC (.int 2))) wNil))))) wNil))))) (wCons (wEx (wLst 0 (wCons (wEx (wC (.int 4))) (wCons (wEx (wC (.int 3))) (wCons (wEx (wC (.int 5))) wNil))))) wNil)))) wNext))))
theorem w_law {P : Program} {w : World} {K : Frag} {mg : Str → Option Value} {base : Heap} {f : Addr} {cdv : Value} {A : Around} {up : List Env} {s : Shared} {H : Hp} {k : Nat} (hr : Room k (A.deeper (envOfC "law" (defScope t_law) s.heap.objs.size f cdv))) (hgd : A.guards = some []) (m_range : mg "range" = none) (m_zip : mg "zip" = none)  (c__law_source : CalS P w K mg base k "_law_source" F__law_source) (c__law_some_sight : CalS P w K mg base k "_law_some_sight" F__law_some_sight) (c__law_draw_needs : CalS P w K mg base k "_law_draw_needs" F__law_draw_needs) (c__law_of : CalS P w K mg base k "_law_of" F__law_of) (c__law_pick : CalS P w K mg base k "_law_pick" F__law_pick) (c__law_layers_cost : CalS P w K mg base k "_law_layers_cost" F__law_layers_cost) (c_sight_row : CalS P w K mg base k "sight_row" F_sight_row) (c__law_need_price : CalS P w K mg base k "_law_need_price" F__law_need_price) (c_sight_cost : CalS P w K mg base k "sight_cost" F_sight_cost) (c__law_prefixes_right : CalS P w K mg base k "_law_prefixes_right" F__law_prefixes_right) (c__law_worst : CalS P w K mg base k "_law_worst" F__law_worst) :
    PSs (cxOf CX0 P w K mg base n_law "law" (defScope t_law) f cdv A up s H fun _ _ _ => False).nox (defBody t_law) (rdS K (Free [.val]) b_law) :=
  (snd_seq (snd_set (i := 1) sc_law.nd rfl (.inl rfl) (.inl rfl) (free_of rfl) (snd_call c__law_source hr hgd rfl (snd_cons (snd_sl (pv 0)) snd_nil rfl) (by decide) rfl rfl) rfl) (snd_seq (snd_for PassesOwn.never rfl (snd_range1 rfl m_range c_int rfl) (snd_nm (i := 2) sc_law.nd rfl (.inl rfl) (.inl rfl) (free_of rfl)) (snd_seq (snd_asg (snd_fz (snd_call c__law_some_sight hr hgd rfl (snd_cons (snd_sl (pv 1)) (snd_cons (snd_ex (snd_ix (snd_ex (snd_lst (k := 0) (snd_cons (snd_ex c_int) (snd_cons (snd_ex c_int) (snd_cons (snd_ex c_int) (snd_cons (snd_ex c_int) (snd_cons (snd_ex c_int) (snd_cons (snd_ex c_int) snd_nil rfl) rfl) rfl) rfl) rfl) rfl))) (snd_sl (pv 2)) (fun _ _ => rfl))) snd_nil rfl) rfl) (by decide) rfl rfl)) (snd_tp (k := 2) rfl (snd_gc (snd_nm (i := 3) sc_law.nd rfl (.inl rfl) (.inl rfl) (free_of rfl)) (snd_gc (snd_nm (i := 4) sc_law.nd rfl (.inl rfl) (.inl rfl) (free_of rfl)) snd_gn rfl) rfl) rfl rfl) rfl rfl rfl) (snd_seq (snd_set (i := 5) sc_law.nd rfl (.inl rfl) (.inl rfl) (free_of rfl) (snd_fz (snd_call c__law_draw_needs hr hgd rfl (snd_cons (snd_sl (pv 1)) (snd_cons (snd_ex (snd_bin s_add (snd_ex c_int) (snd_ex (snd_call c__law_pick hr hgd rfl (snd_cons (snd_sl (pv 1)) (snd_cons (snd_ex c_int) snd_nil rfl) rfl) (by decide) rfl rfl)))) (snd_cons (snd_ex (snd_fz (snd_call c__law_of hr hgd rfl (snd_cons (snd_sl (pv 1)) (snd_cons (snd_ex (snd_fz (snd_lst (k := 0) (snd_cons (snd_ex c_int) (snd_cons (snd_ex c_int) (snd_cons (snd_ex c_int) snd_nil rfl) rfl) rfl)))) snd_nil rfl) rfl) (by decide) rfl rfl))) snd_nil rfl) rfl) rfl) (by decide) rfl rfl)) rfl) (snd_seq (snd_par2 (i := 6) (j := 7) rfl sc_law.nd rfl rfl (by decide) rfl rfl ⟨free_of rfl, free_of rfl⟩ (snd_cons (snd_ex (snd_fz (snd_call c_sight_row hr hgd rfl (snd_cons (snd_sl (pv 5)) (snd_cons (snd_sl (pv 3)) (snd_cons (snd_sl (pv 4)) snd_nil rfl) rfl) rfl) (by decide) rfl rfl))) (snd_cons (snd_ex (snd_fz (snd_call c__law_layers_cost hr hgd rfl (snd_cons (snd_sl (pv 5)) (snd_cons (snd_sl (pv 3)) snd_nil rfl) rfl) (by decide) rfl rfl))) snd_nil rfl) rfl) rfl rfl) (snd_seq (snd_set (i := 8) sc_law.nd rfl (.inl rfl) (.inl rfl) (free_of rfl) (snd_fz (snd_call c__law_need_price hr hgd rfl (snd_cons (snd_sl (pv 6)) (snd_cons (snd_sl (pv 3)) snd_nil rfl) rfl) (by decide) rfl rfl)) rfl) (snd_seq (snd_if (PW.pt (snd_or (snd_tcmp (s_ne (u64 hr)) (snd_ex (snd_call c_sight_cost hr hgd rfl (snd_cons (snd_sl (pv 5)) (snd_cons (snd_sl (pv 3)) (snd_cons (snd_sl (pv 4)) snd_nil rfl) rfl) rfl) (by decide) rfl rfl)) (snd_sl (pv 8)) rfl) (snd_or (snd_tcmp s_gt (snd_ex (snd_bin s_mul (snd_ex (snd_bin s_add (snd_sl (pv 3)) (snd_ex c_int))) (snd_sl (pv 8)))) (snd_ex (snd_bin s_mul (snd_ex (snd_bin s_sub (snd_ex (snd_bin s_mul (snd_ex c_int) (snd_sl (pv 3)))) (snd_sl (pv 4)))) (snd_sl (pv 7)))) rfl) (snd_or1 (snd_tcmp (s_ne (u64 hr)) (snd_ex (snd_comp (own := [("x", 13), ("need", 14)]) (k := 0) rfl sc_law.nd (snd_zipI rfl m_zip (snd_sl (pv 6)) (snd_sl (pv 5)) rfl rfl rfl) (blkOk_by (N := n_law) (sc := defScope t_law) (by decide +kernel)) (fun _ _ _ _ _ => (snd_tp (k := 2) rfl (snd_gc (snd_nm (i := 13) sc_law.nd rfl (.inl rfl) (.inr rfl) (by decide)) (snd_gc (snd_nm (i := 14) sc_law.nd rfl (.inl rfl) (.inr rfl) (by decide)) snd_gn rfl) rfl) rfl rfl)) (fun _ _ _ _ _ => (snd_ift (snd_tcmp (s_lt (u64 hr)) (snd_sl (pv 13)) (snd_sl (pv 14)) rfl))) (fun _ _ _ _ _ => c_int) (fun _ => rfl))) (snd_ex (snd_lst (k := 0) snd_nil)) rfl))))) (snd_seq (snd_ret c_bl) snd_snil) snd_snil) (snd_seq (snd_if (PW.pt (snd_or (PW.pt (snd_and (snd_tcmp (s_eq (u64 hr)) (snd_sl (pv 4)) (snd_ex (snd_bin s_sub (snd_sl (pv 3)) (snd_ex c_int))) rfl) (snd_and1 (snd_tcmp (s_ne (u64 hr)) (snd_sl (pv 8)) (snd_sl (pv 7)) rfl)))) (snd_or (snd_tcmp (s_lt (u64 hr)) (snd_sl (pv 8)) (snd_sl (pv 7)) rfl) (snd_or1 (snd_not (snd_tru (snd_ex (snd_call c__law_prefixes_right hr hgd rfl (snd_cons (snd_sl (pv 5)) (snd_cons (snd_sl (pv 6)) (snd_cons (snd_sl (pv 3)) (snd_cons (snd_sl (pv 4)) snd_nil rfl) rfl) rfl) rfl) (by decide) rfl rfl)) (fun _ => rfl))))))) (snd_seq (snd_ret c_bl) snd_snil) snd_snil) (snd_seq (snd_asg (snd_fz (snd_call c__law_worst hr hgd rfl (snd_cons (snd_sl (pv 1)) (snd_cons (snd_sl (pv 3)) snd_nil rfl) rfl) (by decide) rfl rfl)) (snd_tp (k := 3) rfl (snd_gc (snd_nm (i := 9) sc_law.nd rfl (.inl rfl) (.inl rfl) (free_of rfl)) (snd_gc (snd_nm (i := 10) sc_law.nd rfl (.inl rfl) (.inl rfl) (free_of rfl)) (snd_gc (snd_nm (i := 11) sc_law.nd rfl (.inl rfl) (.inl rfl) (free_of rfl)) snd_gn rfl) rfl) rfl) rfl rfl) rfl rfl rfl) (snd_seq (snd_set (i := 8) sc_law.nd rfl (.inl rfl) (.inl rfl) (free_of rfl) (snd_fz (snd_call c__law_need_price hr hgd rfl (snd_cons (snd_ex (snd_fz (snd_call c_sight_row hr hgd rfl (snd_cons (snd_sl (pv 9)) (snd_cons (snd_sl (pv 3)) (snd_cons (snd_sl (pv 4)) snd_nil rfl) rfl) rfl) (by decide) rfl rfl))) (snd_cons (snd_sl (pv 3)) snd_nil rfl) rfl) (by decide) rfl rfl)) rfl) (snd_seq (snd_if (PW.pt (snd_or (snd_tcmp (s_ne (u64 hr)) (snd_sl (pv 8)) (snd_ex (snd_bin s_mul (snd_ex (snd_bin s_mul (snd_sl (pv 10)) (snd_sl (pv 11)))) (snd_ex (snd_bin s_sub (snd_ex (snd_bin s_mul (snd_ex c_int) (snd_sl (pv 3)))) (snd_sl (pv 4)))))) rfl) (snd_or1 (snd_tcmp (s_ne (u64 hr)) (snd_ex (snd_bin s_mul (snd_ex (snd_bin s_add (snd_sl (pv 3)) (snd_ex c_int))) (snd_sl (pv 8)))) (snd_ex (snd_bin s_mul (snd_ex (snd_bin s_sub (snd_ex (snd_bin s_mul (snd_ex c_int) (snd_sl (pv 3)))) (snd_sl (pv 4)))) (snd_ex (snd_call c__law_layers_cost hr hgd rfl (snd_cons (snd_sl (pv 9)) (snd_cons (snd_sl (pv 3)) snd_nil rfl) rfl) (by decide) rfl rfl)))) rfl)))) (snd_seq (snd_ret c_bl) snd_snil) snd_snil) snd_snil))))))))) (fun _ => rfl)) (snd_seq (snd_set (i := 12) sc_law.nd rfl (.inl rfl) (.inl rfl) (free_of rfl) (snd_fz (snd_call c__law_need_price hr hgd rfl (snd_cons (snd_ex (snd_fz (snd_cut (snd_ex (snd_call c_sight_row hr hgd rfl (snd_cons (snd_ex (snd_tup (snd_cons (snd_ex c_int) (snd_cons (snd_ex c_int) (snd_cons (snd_ex c_int) snd_nil rfl) rfl) rfl))) (snd_cons (snd_ex c_int) (snd_cons (snd_ex c_int) snd_nil rfl) rfl) rfl) (by decide) rfl rfl)) snd_p0 (snd_p1 c_int)))) (snd_cons (snd_ex c_int) snd_nil rfl) rfl) (by decide) rfl rfl)) rfl) (snd_seq (snd_ret (snd_cmp (s_eq (u64 hr)) (snd_ex (snd_lst (k := 0) (snd_cons (snd_ex (snd_var (pv 12))) (snd_cons (snd_ex (snd_fz (snd_call c__law_layers_cost hr hgd rfl (snd_cons (snd_ex (snd_tup (snd_cons (snd_ex c_int) (snd_cons (snd_ex c_int) snd_nil rfl) rfl))) (snd_cons (snd_ex c_int) snd_nil rfl) rfl) (by decide) rfl rfl))) (snd_cons (snd_ex (snd_fz (snd_call c__law_layers_cost hr hgd rfl (snd_cons (snd_ex (snd_tup (snd_cons (snd_ex c_int) (snd_cons (snd_ex c_int) (snd_cons (snd_ex c_int) snd_nil rfl) rfl) rfl))) (snd_cons (snd_ex c_int) snd_nil rfl) rfl) (by decide) rfl rfl))) snd_nil rfl) rfl) rfl))) (snd_ex (snd_lst (k := 0) (snd_cons (snd_ex c_int) (snd_cons (snd_ex c_int) (snd_cons (snd_ex c_int) snd_nil rfl) rfl) rfl))) rfl)) snd_snil))))
end K43
namespace K43
open PySem PySem.Spec PyProof.Rows L2 Sq
theorem least_price {b : Int} {w : Nat} (hw : (w : Int) ≤ b - 1) {needs : List Int} (hx : ∀ x ∈ needs, 0 ≤ x) : layersCost needs b ≤ sightC needs b w := by
  rw [layers_vals b hx]
  have t := topN_le needs
  have hv := vals_bd (fun x h => ⟨hx x h, t.2 x h⟩) t.1
  have ht := tailsF_bd t.1 (fun x h => ⟨hx x h, t.2 x h⟩)
  have e1 : ∀ l : List (Int × Int × Int × Int), (∀ v ∈ l, v.2.2.1 < v.2.2.2) → Sq.valSum b l ≤ (l.map fun v => (v.2.2.2 - v.2.2.1) * gapC b w v.2.1).sum := fun l hl => by
    induction l with
    | nil => simp [Sq.valSum]
    | cons v l ih =>
      have i := ih fun u hu => hl u (List.mem_cons_of_mem _ hu)
      have h := hl v (by simp)
      have q : (v.2.2.2 - v.2.2.1) * min v.2.1 b ≤ (v.2.2.2 - v.2.2.1) * gapC b w v.2.1 := mul_mono (by omega) (by unfold gapC; split <;> omega)
      unfold Sq.valSum at *
      rw [List.map_cons, List.sum_cons, List.map_cons, List.sum_cons]
      omega
  have e2 : ∀ l : List (Int × Int × Int × Int), (∀ v ∈ l, 0 ≤ v.2.1 ∧ v.2.2.1 < v.2.2.2) → 0 ≤ (l.map fun v => (v.2.2.2 - v.2.2.1) * min v.2.1 (b - 1 - w)).sum := fun l hl => by
    induction l with
    | nil => simp
    | cons v l ih =>
      have i := ih fun u hu => hl u (List.mem_cons_of_mem _ hu)
      have h := hl v (by simp)
      have q : 0 ≤ (v.2.2.2 - v.2.2.1) * min v.2.1 (b - 1 - w) := Int.mul_nonneg (by omega) (by omega)
      rw [List.map_cons, List.sum_cons]
      omega
  have f1 := e1 (vals needs) fun v h => by have := hv v h; omega
  have f2 := e2 (tailsF needs) fun v h => by have := ht v h; omega
  unfold sightC
  omega
theorem tru_bool {b : Bool} {Q : Bool → Prop} : truD (.bool b) Q = Q b := rfl
theorem zip_ints : ∀ a c : List Int, zipL (a.map .int) (c.map .int) = (a.zip c).map fun p => PyData.tuple [.int p.1, .int p.2]
  | [], _ => by simp [zipL]
  | _ :: _, [] => by simp [zipL]
  | x :: a, y :: c => by
    have ih := zip_ints a c
    unfold zipL at *
    simp only [List.map_cons, List.zipWith_cons_cons, List.zip_cons_cons, ih]
local macro_rules | `(tactic| walk_at "z18") => `(tactic| simp only [x_wC, x_wEx, x_wNil, x_wCons, x_wOp, x_wT, x_wAndT, x_wOrT, x_wNotT, x_wIte, x_wAndV, x_wOrV, x_wNotV, x_wChain, x_wTru, x_wFz, x_wTup, x_wLst, x_wStar, x_wP0, x_wP1, x_wCut, x_wNext, x_wBrk, x_wCnt, x_wNever, x_wSeq, x_wNm, y_gn, y_gc, y_tp, x_wNmG, x_wAsg, x_wExpr, x_wRet, x_wRetN, x_wIf, x_wFor, x_wComp, x_wYes, x_wiSeq, x_wiEnum, x_wiRange1, x_wiRange2, y_par, y_al0, y_alC, y_app, x_wDisp, x_wDNew, x_wDNewT, x_wCall, x_wiZip, x_tmp, x_fs0, x_fs1, y_add, y_addS, y_addL, y_addT, y_sub, y_mul, y_rep, y_div, y_mod, y_pow, y_eq, y_eqS, y_eqL, y_eqT, y_ne, y_neS, y_neL, y_neT, y_lt, y_le, y_gt, y_ge, y_isN, y_notN, y_nNone, y_nInt, y_nStr, y_nTup, y_nLst, y_lenL, y_lenT, y_lenS, y_abs, y_max, y_min, y_int, y_intB, y_tupL, y_tupT, y_lstL, y_lstT, y_repr, y_neg, y_ixL, y_ixT, y_cutL, y_cutT, y_rev, y_starT, y_starL, y_starKT, y_starKL, y_itT, y_itKT, y_plain, y_itS, y_itKS, y_var, y_own, y_mv, y_seen, y_seenL, y_fetS, y_sl, y_tm0, y_tmS, y_tmI, y_tmT, y_tmX, y_tmN, y_tn0, y_tnC, y_mapS, y_io0, y_ioV, y_ioB, io_ex, y_nx, y_rt, y_fit0, y_fitT, y_fitN, y_fitX, y_fitS, y_setE0, y_setE1, y_pl, y_un, y_put, y_pop1, List.getElem?_cons_zero, List.getElem?_cons_succ, List.set_cons_zero, List.set_cons_succ, Option.some.injEq, PyData.int.injEq, PyData.bool.injEq, PyData.tuple.injEq, PyData.list.injEq, Prod.mk.injEq, Md.own.injEq, exists_eq_left', exists_eq_left, exists_eq', exists_eq, true_and, and_true, and_self, List.length_cons, List.length_nil, wipeE, restE, decide_eq_true_eq, Bool.not_eq_true', decide_eq_false_iff_not, Nat.reduceAdd, Nat.reduceLT, Nat.reduceLeDiff, Nat.zero_le, Nat.le_refl, waOf, List.map_cons, List.map_nil, Nat.zero_add, List.nil_append, Nat.lt_add_one, y_lfI, y_lfS, y_lfT, y_lfN, y_lfB, or_true, Nat.reduceSub, Nat.add_one_sub_one, List.map_append, List.length_map, exists_and_left, ↓reduceIte, Nat.lt_irrefl, y_po0, y_poS, y_poN, y_ou0, y_ouI, y_ouV, y_ouB, Bool.true_eq_false, Bool.false_eq_true, reduceCtorEq, a_nil, a_cons, a_vt, a_vs, a_is, a_bs, a_bt, a_v0, a_vl, a_vi, a_i0, a_b0, a_bl, y_bind, ok_0, ok_1, ok_2, ok_3, ok_4, ok_5, ok_6, ok_i1, ok_i2, ok_i3, ok_i4, ok_i5, ok_i6, Option.getD_some, Option.getD_none, y_appB, at_0, at_1, at_2, at_3, y_chL, y_chT, not_true_eq_false, not_false_eq_true, true_or, y_pop0, F__law_source, F__law_pick, F__law_of, F__law_draw_needs, F__law_gaps, source_ms, source_sp, pick_ms, pick_sp, of_ms, of_sp, draw_ms, draw_sp, lgaps_ms, lgaps_sp, y_ext, y_all, y_any, closed_ms, closed_sp, lsf_ms, lsf_sp, lc_ms, lc_sp, y_sumL, y_sumT, x_wIsi, x_wGlo, pl_N, pl_B, pl_I, pl_S, pl_L, pl_T, pl_D0, i_Nint, i_Nbool, i_Ntuple, i_Nstr, i_Nlist, i_Ndict, i_Bint, i_Bbool, i_Btuple, i_Bstr, i_Blist, i_Bdict, i_Iint, i_Ibool, i_Ituple, i_Istr, i_Ilist, i_Idict, i_Sint, i_Sbool, i_Stuple, i_Sstr, i_Slist, i_Sdict, i_Lint, i_Lbool, i_Ltuple, i_Lstr, i_Llist, i_Ldict, i_Tint, i_Tbool, i_Ttuple, i_Tstr, i_Tlist, i_Tdict, i_Dint, i_Dbool, i_Dtuple, i_Dstr, i_Dlist, i_Ddict, y_in, y_nin, y_ge2, y_ge2T, y_maxA, y_minA, y_mulT, kx_c, kx_v, kx_add, kx_sub, kx_it, kc_0, kx_i, kx_s, ko_add, ko_sub, y_plA, y_plB, y_plV, y_putA, y_putV, x_wShare, y_ixCD, y_din, y_dnin, wForK, wCompK, x_wLk, x_wLkS, x_wiKeys, y_own0, y_dictAt, x_disp1, keyOk_i, keyOk_s, y_listK, y_valsK, y_itemsK, plain_R, keys_R, vals_R, look_R, has_R, y_neE, y_addK, y_neDict, x_wLC, x_wiRange3, x_wIdx, y_isL, y_index, x_wiKeysB1, endX, x_wRaise, x_wRetX, x_wExpX, x_wSetX, x_wCX, x_wTryR, y_inTp, y_ninTp, y_eqEt, x_wMeth, y_m1, y_obP, y_fch, isFk_self, x_wMake, x_wCallT, y_lifN, y_lifT, y_lifS, y_lifV, y_lifB, y_plF, y_unF, y_putF, y_addF, x_wPopI, y_bs, y_ms, y_tk0, y_tkS, Option.map_some, List.cons_append, valleys_ms, valleys_sp, law_valleys_ms, law_valleys_sp, is_number_ms, is_number_sp, law_is_number_ms, law_is_number_sp, is_form_ms, is_form_sp, is_valley_ms, is_valley_sp, judge_need_paper_ms, judge_need_paper_sp, law_paper_fault_ms, law_paper_fault_sp, need_paper_ms, need_paper_sp, worth_at_ms, worth_at_sp, low_of_ms, low_of_sp, high_of_ms, high_of_sp, held_slope_ms, held_slope_sp, sum_of_ms, sum_of_sp, held_worth_ms, held_worth_sp, held_ms, held_sp, work_after_ms, work_after_sp, works_of_ms, works_of_sp, least_costs_ms, least_costs_sp, least_cost_ms, least_cost_sp, law_draw_slots_ms, law_draw_slots_sp, law_great_slots_ms, law_great_slots_sp, law_slot_costs_ms, law_slot_costs_sp, law_going_ms, law_going_sp, law_work_told_ms, law_work_told_sp, law_low_ms, law_low_sp, law_high_ms, law_high_sp, ended_ms, ended_sp, best_row_ms, best_row_sp, law_starts_ms, law_starts_sp, law_price_ms, law_price_sp, law_least_cost_ms, law_least_cost_sp, plain_slot_ms, plain_slot_sp, law_all_rows_ms, law_all_rows_sp, law_need_costs_ms, law_need_costs_sp, least_by_layers_ms, least_by_layers_sp, steps_behind_ms, steps_behind_sp, least_by_steps_ms, least_by_steps_sp, law_worths_ms, law_worths_sp, law_some_work_ms, law_some_work_sp, law_added_ms, law_added_sp, law_held_ms, law_held_sp, slot_cost_ms, slot_cost_sp, serves_ms, serves_sp, starts_ms, starts_sp, stops_ms, stops_sp, running_cost_ms, running_cost_sp, row_cost_ms, row_cost_sp, law_some_row_ms, law_some_row_sp, least_numbers_ms, least_numbers_sp, bound_of_ms, bound_of_sp, law_bound_ms, law_bound_sp, best_by_layers_ms, best_by_layers_sp, law_best_row_ms, law_best_row_sp, span_of_ms, span_of_sp, prices_for_ms, prices_for_sp, paper_of_ms, paper_of_sp, is_integer_ms, is_integer_sp, are_integers_ms, are_integers_sp, first_where_ms, first_where_sp, is_least_ms, is_least_sp, judge_paper_ms, judge_paper_sp, law_price_fault_ms, law_price_fault_sp, law_need_fault_ms, law_need_fault_sp, row_layers_ms, row_layers_sp, SightRunner_init_ms, SightRunner_init_sp, SightRunner_look_ms, SightRunner_look_sp, run_sight_ms, run_sight_sp, sight_row_ms, sight_row_sp, law_mixed_ms, law_mixed_sp, law_some_sight_ms, law_some_sight_sp, law_sight_row_ms, law_sight_row_sp, law_shown_row_ms, law_shown_row_sp, LazyRunner_init_ms, LazyRunner_init_sp, LazyRunner_look_ms, LazyRunner_look_sp, run_lazy_ms, run_lazy_sp, lazy_account_ms, lazy_account_sp, lazy_row_ms, lazy_row_sp, law_bounds_ms, law_bounds_sp, law_lazy_ms, law_lazy_sp, law_far_ms, law_far_sp, law_dear_ms, law_dear_sp, law_draw_slots0_ms, law_draw_slots0_sp, law_between_ms, law_between_sp, tails_ms, tails_sp, sight_cost_ms, sight_cost_sp, sight_room_ms, sight_room_sp, law_prefixes_right_ms, law_prefixes_right_sp, law_worst_ms, law_worst_sp, law_need_price_ms, law_need_price_sp])
local macro_rules | `(tactic| walk_at "z19") => `(tactic| simp only [turnW, x_wC, x_wEx, x_wNil, x_wCons, x_wOp, x_wT, x_wAndT, x_wOrT, x_wNotT, x_wIte, x_wAndV, x_wOrV, x_wNotV, x_wChain, x_wTru, x_wFz, x_wTup, x_wLst, x_wStar, x_wP0, x_wP1, x_wCut, x_wNext, x_wBrk, x_wCnt, x_wNever, x_wSeq, x_wNm, y_gn, y_gc, y_tp, x_wNmG, x_wAsg, x_wExpr, x_wRet, x_wRetN, x_wIf, x_wFor, x_wComp, x_wYes, x_wiSeq, x_wiEnum, x_wiRange1, x_wiRange2, y_par, y_al0, y_alC, y_app, x_wDisp, x_wDNew, x_wDNewT, x_wCall, x_wiZip, x_tmp, x_fs0, x_fs1, y_add, y_addS, y_addL, y_addT, y_sub, y_mul, y_rep, y_div, y_mod, y_pow, y_eq, y_eqS, y_eqL, y_eqT, y_ne, y_neS, y_neL, y_neT, y_lt, y_le, y_gt, y_ge, y_isN, y_notN, y_nNone, y_nInt, y_nStr, y_nTup, y_nLst, y_lenL, y_lenT, y_lenS, y_abs, y_max, y_min, y_int, y_intB, y_tupL, y_tupT, y_lstL, y_lstT, y_repr, y_neg, y_ixL, y_ixT, y_cutL, y_cutT, y_rev, y_starT, y_starL, y_starKT, y_starKL, y_itT, y_itKT, y_plain, y_itS, y_itKS, y_var, y_own, y_mv, y_seen, y_seenL, y_fetS, y_sl, y_tm0, y_tmS, y_tmI, y_tmT, y_tmX, y_tmN, y_tn0, y_tnC, y_mapS, y_io0, y_ioV, y_ioB, io_ex, y_nx, y_rt, y_fit0, y_fitT, y_fitN, y_fitX, y_fitS, y_setE0, y_setE1, y_pl, y_un, y_put, y_pop1, List.getElem?_cons_zero, List.getElem?_cons_succ, List.set_cons_zero, List.set_cons_succ, Option.some.injEq, PyData.int.injEq, PyData.bool.injEq, PyData.tuple.injEq, PyData.list.injEq, Prod.mk.injEq, Md.own.injEq, exists_eq_left', exists_eq_left, exists_eq', exists_eq, true_and, and_true, and_self, List.length_cons, List.length_nil, wipeE, restE, decide_eq_true_eq, Bool.not_eq_true', decide_eq_false_iff_not, Nat.reduceAdd, Nat.reduceLT, Nat.reduceLeDiff, Nat.zero_le, Nat.le_refl, waOf, List.map_cons, List.map_nil, Nat.zero_add, List.nil_append, Nat.lt_add_one, y_lfI, y_lfS, y_lfT, y_lfN, y_lfB, or_true, Nat.reduceSub, Nat.add_one_sub_one, List.map_append, List.length_map, exists_and_left, ↓reduceIte, Nat.lt_irrefl, Nat.reduceLT, y_po0, y_poS, y_poN, y_ou0, y_ouI, y_ouV, y_ouB, Bool.true_eq_false, Bool.false_eq_true, reduceCtorEq, a_nil, a_cons, a_vt, a_vs, a_is, a_bs, a_bt, a_v0, a_vl, a_vi, a_i0, a_b0, a_bl, y_bind, ok_0, ok_1, ok_2, ok_3, ok_4, ok_5, ok_6, ok_i1, ok_i2, ok_i3, ok_i4, ok_i5, ok_i6, Option.getD_some, Option.getD_none, y_appB, at_0, at_1, at_2, at_3, y_chL, y_chT, not_true_eq_false, not_false_eq_true, true_or, y_pop0, F__law_source, F__law_pick, F__law_of, F__law_draw_needs, F__law_gaps, source_ms, source_sp, pick_ms, pick_sp, of_ms, of_sp, draw_ms, draw_sp, lgaps_ms, lgaps_sp, y_ext, y_all, y_any, closed_ms, closed_sp, lsf_ms, lsf_sp, lc_ms, lc_sp, y_sumL, y_sumT, x_wIsi, x_wGlo, pl_N, pl_B, pl_I, pl_S, pl_L, pl_T, pl_D0, i_Nint, i_Nbool, i_Ntuple, i_Nstr, i_Nlist, i_Ndict, i_Bint, i_Bbool, i_Btuple, i_Bstr, i_Blist, i_Bdict, i_Iint, i_Ibool, i_Ituple, i_Istr, i_Ilist, i_Idict, i_Sint, i_Sbool, i_Stuple, i_Sstr, i_Slist, i_Sdict, i_Lint, i_Lbool, i_Ltuple, i_Lstr, i_Llist, i_Ldict, i_Tint, i_Tbool, i_Ttuple, i_Tstr, i_Tlist, i_Tdict, i_Dint, i_Dbool, i_Dtuple, i_Dstr, i_Dlist, i_Ddict, y_in, y_nin, y_ge2, y_ge2T, y_maxA, y_minA, y_mulT, kx_c, kx_v, kx_add, kx_sub, kx_it, kc_0, kx_i, kx_s, ko_add, ko_sub, y_plA, y_plB, y_plV, y_putA, y_putV, x_wShare, y_ixCD, y_din, y_dnin, wForK, wCompK, x_wLk, x_wLkS, x_wiKeys, y_own0, y_dictAt, x_disp1, keyOk_i, keyOk_s, y_listK, y_valsK, y_itemsK, plain_R, keys_R, vals_R, look_R, has_R, y_neE, y_addK, y_neDict, x_wLC, x_wiRange3, x_wIdx, y_isL, y_index, x_wiKeysB1, endX, x_wRaise, x_wRetX, x_wExpX, x_wSetX, x_wCX, x_wTryR, y_inTp, y_ninTp, y_eqEt, x_wMeth, y_m1, y_obP, y_fch, isFk_self, x_wMake, x_wCallT, y_lifN, y_lifT, y_lifS, y_lifV, y_lifB, y_plF, y_unF, y_putF, y_addF, x_wPopI, y_bs, y_ms, y_tk0, y_tkS, Option.map_some, List.cons_append, List.nil_append, valleys_ms, valleys_sp, law_valleys_ms, law_valleys_sp, is_number_ms, is_number_sp, law_is_number_ms, law_is_number_sp, is_form_ms, is_form_sp, is_valley_ms, is_valley_sp, judge_need_paper_ms, judge_need_paper_sp, law_paper_fault_ms, law_paper_fault_sp, need_paper_ms, need_paper_sp, worth_at_ms, worth_at_sp, low_of_ms, low_of_sp, high_of_ms, high_of_sp, held_slope_ms, held_slope_sp, sum_of_ms, sum_of_sp, held_worth_ms, held_worth_sp, held_ms, held_sp, work_after_ms, work_after_sp, works_of_ms, works_of_sp, least_costs_ms, least_costs_sp, least_cost_ms, least_cost_sp, law_draw_slots_ms, law_draw_slots_sp, law_great_slots_ms, law_great_slots_sp, law_slot_costs_ms, law_slot_costs_sp, law_going_ms, law_going_sp, law_work_told_ms, law_work_told_sp, law_low_ms, law_low_sp, law_high_ms, law_high_sp, ended_ms, ended_sp, best_row_ms, best_row_sp, law_starts_ms, law_starts_sp, law_price_ms, law_price_sp, law_least_cost_ms, law_least_cost_sp, plain_slot_ms, plain_slot_sp, law_all_rows_ms, law_all_rows_sp, law_need_costs_ms, law_need_costs_sp, least_by_layers_ms, least_by_layers_sp, steps_behind_ms, steps_behind_sp, least_by_steps_ms, least_by_steps_sp, law_worths_ms, law_worths_sp, law_some_work_ms, law_some_work_sp, law_added_ms, law_added_sp, law_held_ms, law_held_sp, slot_cost_ms, slot_cost_sp, serves_ms, serves_sp, starts_ms, starts_sp, stops_ms, stops_sp, running_cost_ms, running_cost_sp, row_cost_ms, row_cost_sp, law_some_row_ms, law_some_row_sp, least_numbers_ms, least_numbers_sp, bound_of_ms, bound_of_sp, law_bound_ms, law_bound_sp, best_by_layers_ms, best_by_layers_sp, law_best_row_ms, law_best_row_sp, span_of_ms, span_of_sp, prices_for_ms, prices_for_sp, paper_of_ms, paper_of_sp, is_integer_ms, is_integer_sp, are_integers_ms, are_integers_sp, first_where_ms, first_where_sp, is_least_ms, is_least_sp, judge_paper_ms, judge_paper_sp, law_price_fault_ms, law_price_fault_sp, law_need_fault_ms, law_need_fault_sp, row_layers_ms, row_layers_sp, SightRunner_init_ms, SightRunner_init_sp, SightRunner_look_ms, SightRunner_look_sp, run_sight_ms, run_sight_sp, sight_row_ms, sight_row_sp, law_mixed_ms, law_mixed_sp, law_some_sight_ms, law_some_sight_sp, law_sight_row_ms, law_sight_row_sp, law_shown_row_ms, law_shown_row_sp, LazyRunner_init_ms, LazyRunner_init_sp, LazyRunner_look_ms, LazyRunner_look_sp, run_lazy_ms, run_lazy_sp, lazy_account_ms, lazy_account_sp, lazy_row_ms, lazy_row_sp, law_bounds_ms, law_bounds_sp, law_lazy_ms, law_lazy_sp, law_far_ms, law_far_sp, law_dear_ms, law_dear_sp, law_draw_slots0_ms, law_draw_slots0_sp, law_between_ms, law_between_sp, tails_ms, tails_sp, sight_cost_ms, sight_cost_sp, sight_room_ms, sight_room_sp, law_prefixes_right_ms, law_prefixes_right_sp, law_worst_ms, law_worst_sp, law_need_price_ms, law_need_price_sp])
theorem law_law (ds : List D) (R : Nat → D → List D → Prop) (h : (lawS 63).sp ds R) : b_law (entE [.val] ds ++ List.replicate 14 none) (endK [.val] R) := by
  obtain ⟨ns, rfl, hn, hb, hR⟩ := h
  have szl : sizeLine = 16777216 := sizeLine_eq
  unfold b_law
  show (wSeq _ _) [some (.own 0, .list (ns.map .int)), none, none, none, none, none, none, none, none, none, none, none, none, none, none] _
  refine seq_mid (fun e => ∃ src, e = [some (.own 0, .list (ns.map .int)), some (.own 2, src), none, none, none, none, none, none, none, none, none, none, none, none, none] ∧ Src 0 src) (fun V hV => ?_) ?_
  · walk_at "z18"
    exact ⟨ns, rfl, by omega, hb, fun src hs => hV _ ⟨src, rfl, hs⟩⟩
  rintro e ⟨src, rfl, hs⟩
  refine seq_mid (fun e => ∃ src x2 x3 x4 x5 x6 x7 x8 x9 x10 x11 x12 x13 x14, e = [some (.own 0, .list (ns.map .int)), some (.own 2, src), x2, x3, x4, x5, x6, x7, x8, x9, x10, x11, x12, x13, x14]) (fun V hV => ?_) ?_
  · walk_at "z18"
    refine ⟨⟨by decide, by decide⟩, by decide, ?_⟩
    refine for_laps0 (fun i e => ∃ src x2 x3 x4 x5 x6 x7 x8 x9 x10 x11 x12 x13 x14, e = [some (.own 0, .list (ns.map .int)), some (.own 2, src), x2, x3, x4, x5, x6, x7, x8, x9, x10, x11, x12, x13, x14] ∧ Src (i * 3000) src) ⟨src, _, _, _, _, _, _, _, _, _, _, _, _, _, rfl, hs⟩ ?_ ?_
    · rintro lap e hlap ⟨src, x2, x3, x4, x5, x6, x7, x8, x9, x10, x11, x12, x13, x14, rfl, hs⟩ W hW
      have hlap : lap < 6 := hlap
      have hW' : ∀ src x2 x3 x4 x5 x6 x7 x8 x9 x10 x11 x12 x13 x14, Src (lap * 3000 + 2000) src → W [some (.own 0, .list (ns.map .int)), some (.own 2, src), x2, x3, x4, x5, x6, x7, x8, x9, x10, x11, x12, x13, x14] := fun src x2 x3 x4 x5 x6 x7 x8 x9 x10 x11 x12 x13 x14 h => hW _ ⟨src, x2, x3, x4, x5, x6, x7, x8, x9, x10, x11, x12, x13, x14, rfl, h.mono (by omega)⟩
      clear hW
      have hB : lap * 3000 ≤ 20000 := by omega
      generalize lap * 3000 = B at *
      walk_at "z18"
      unfold l_law_1
      obtain ⟨most, em, m1, m2⟩ := lit [1, 2, 4, 7, 10, 12] (fun v => 1 ≤ v ∧ v ≤ 12) (by decide) hlap
      simp only [List.map_cons, List.map_nil] at em
      refine seq_mid (fun e => ∃ (src : D) (b w : Int), ∃ x5 x6 x7 x8 x9 x10 x11 x12 x13 x14, e = [some (.own 0, .list (ns.map .int)), some (.own 2, src), some (.own 0, .int lap), some (.own 0, .int b), some (.own 0, .int w), x5, x6, x7, x8, x9, x10, x11, x12, x13, x14] ∧ Src (B + 3) src ∧ 1 ≤ b ∧ b ≤ 12 ∧ 0 ≤ w ∧ w ≤ b - 1) (fun V hV => ?_) ?_
      · simp only [x_wC, x_wEx, x_wNil, x_wCons, x_wOp, x_wT, x_wAndT, x_wOrT, x_wNotT, x_wIte, x_wAndV, x_wOrV, x_wNotV, x_wChain, x_wTru, x_wFz, x_wTup, x_wLst, x_wStar, x_wP0, x_wP1, x_wCut, x_wNext, x_wBrk, x_wCnt, x_wNever, x_wSeq, x_wNm, y_gn, y_gc, y_tp, x_wNmG, x_wAsg, x_wExpr, x_wRet, x_wRetN, x_wIf, x_wFor, x_wComp, x_wYes, x_wiSeq, x_wiEnum, x_wiRange1, x_wiRange2, y_par, y_al0, y_alC, y_app, x_wDisp, x_wDNew, x_wDNewT, x_wCall, x_wiZip, x_tmp, x_fs0, x_fs1, y_add, y_addS, y_addL, y_addT, y_sub, y_mul, y_rep, y_div, y_mod, y_pow, y_eq, y_eqS, y_eqL, y_eqT, y_ne, y_neS, y_neL, y_neT, y_lt, y_le, y_gt, y_ge, y_isN, y_notN, y_nNone, y_nInt, y_nStr, y_nTup, y_nLst, y_lenL, y_lenT, y_lenS, y_abs, y_max, y_min, y_int, y_intB, y_tupL, y_tupT, y_lstL, y_lstT, y_repr, y_neg, y_ixL, y_ixT, y_cutL, y_cutT, y_rev, y_starT, y_starL, y_starKT, y_starKL, y_itT, y_itKT, y_plain, y_itS, y_itKS, y_var, y_own, y_mv, y_seen, y_seenL, y_fetS, y_sl, y_tm0, y_tmS, y_tmI, y_tmT, y_tmX, y_tmN, y_tn0, y_tnC, y_mapS, y_io0, y_ioV, y_ioB, io_ex, y_nx, y_rt, y_fit0, y_fitT, y_fitN, y_fitX, y_fitS, y_setE0, y_setE1, y_pl, y_un, y_put, y_pop1, List.getElem?_cons_zero, List.getElem?_cons_succ, List.set_cons_zero, List.set_cons_succ, Option.some.injEq, PyData.int.injEq, PyData.bool.injEq, PyData.tuple.injEq, PyData.list.injEq, Prod.mk.injEq, Md.own.injEq, exists_eq_left', exists_eq_left, exists_eq', exists_eq, true_and, and_true, and_self, List.length_cons, List.length_nil, wipeE, restE, decide_eq_true_eq, Bool.not_eq_true', decide_eq_false_iff_not, Nat.reduceAdd, Nat.reduceLT, Nat.reduceLeDiff, Nat.zero_le, Nat.le_refl, waOf, List.map_cons, List.map_nil, Nat.zero_add, List.nil_append, Nat.lt_add_one, y_lfI, y_lfS, y_lfT, y_lfN, y_lfB, or_true, Nat.reduceSub, Nat.add_one_sub_one, List.map_append, List.length_map, exists_and_left, ↓reduceIte, Nat.lt_irrefl, y_po0, y_poS, y_poN, y_ou0, y_ouI, y_ouV, y_ouB, Bool.true_eq_false, Bool.false_eq_true, reduceCtorEq, a_nil, a_cons, a_vt, a_vs, a_is, a_bs, a_bt, a_v0, a_vl, a_vi, a_i0, a_b0, a_bl, y_bind, ok_0, ok_1, ok_2, ok_3, ok_4, ok_5, ok_6, ok_i1, ok_i2, ok_i3, ok_i4, ok_i5, ok_i6, Option.getD_some, Option.getD_none, y_appB, at_0, at_1, at_2, at_3, y_chL, y_chT, not_true_eq_false, not_false_eq_true, true_or, y_pop0, F__law_source, F__law_pick, F__law_of, F__law_draw_needs, F__law_gaps, source_ms, source_sp, pick_ms, pick_sp, of_ms, of_sp, draw_ms, draw_sp, lgaps_ms, lgaps_sp, y_ext, y_all, y_any, closed_ms, closed_sp, lsf_ms, lsf_sp, lc_ms, lc_sp, y_sumL, y_sumT, x_wIsi, x_wGlo, pl_N, pl_B, pl_I, pl_S, pl_L, pl_T, pl_D0, i_Nint, i_Nbool, i_Ntuple, i_Nstr, i_Nlist, i_Ndict, i_Bint, i_Bbool, i_Btuple, i_Bstr, i_Blist, i_Bdict, i_Iint, i_Ibool, i_Ituple, i_Istr, i_Ilist, i_Idict, i_Sint, i_Sbool, i_Stuple, i_Sstr, i_Slist, i_Sdict, i_Lint, i_Lbool, i_Ltuple, i_Lstr, i_Llist, i_Ldict, i_Tint, i_Tbool, i_Ttuple, i_Tstr, i_Tlist, i_Tdict, i_Dint, i_Dbool, i_Dtuple, i_Dstr, i_Dlist, i_Ddict, y_in, y_nin, y_ge2, y_ge2T, y_maxA, y_minA, y_mulT, kx_c, kx_v, kx_add, kx_sub, kx_it, kc_0, kx_i, kx_s, ko_add, ko_sub, y_plA, y_plB, y_plV, y_putA, y_putV, x_wShare, y_ixCD, y_din, y_dnin, wForK, wCompK, x_wLk, x_wLkS, x_wiKeys, y_own0, y_dictAt, x_disp1, keyOk_i, keyOk_s, y_listK, y_valsK, y_itemsK, plain_R, keys_R, vals_R, look_R, has_R, y_neE, y_addK, y_neDict, x_wLC, x_wiRange3, x_wIdx, y_isL, y_index, x_wiKeysB1, endX, x_wRaise, x_wRetX, x_wExpX, x_wSetX, x_wCX, x_wTryR, y_inTp, y_ninTp, y_eqEt, x_wMeth, y_m1, y_obP, y_fch, isFk_self, x_wMake, x_wCallT, y_lifN, y_lifT, y_lifS, y_lifV, y_lifB, y_plF, y_unF, y_putF, y_addF, x_wPopI, y_bs, y_ms, y_tk0, y_tkS, Option.map_some, List.cons_append, valleys_ms, valleys_sp, law_valleys_ms, law_valleys_sp, is_number_ms, is_number_sp, law_is_number_ms, law_is_number_sp, is_form_ms, is_form_sp, is_valley_ms, is_valley_sp, judge_need_paper_ms, judge_need_paper_sp, law_paper_fault_ms, law_paper_fault_sp, need_paper_ms, need_paper_sp, worth_at_ms, worth_at_sp, low_of_ms, low_of_sp, high_of_ms, high_of_sp, held_slope_ms, held_slope_sp, sum_of_ms, sum_of_sp, held_worth_ms, held_worth_sp, held_ms, held_sp, work_after_ms, work_after_sp, works_of_ms, works_of_sp, least_costs_ms, least_costs_sp, least_cost_ms, least_cost_sp, law_draw_slots_ms, law_draw_slots_sp, law_great_slots_ms, law_great_slots_sp, law_slot_costs_ms, law_slot_costs_sp, law_going_ms, law_going_sp, law_work_told_ms, law_work_told_sp, law_low_ms, law_low_sp, law_high_ms, law_high_sp, ended_ms, ended_sp, best_row_ms, best_row_sp, law_starts_ms, law_starts_sp, law_price_ms, law_price_sp, law_least_cost_ms, law_least_cost_sp, plain_slot_ms, plain_slot_sp, law_all_rows_ms, law_all_rows_sp, law_need_costs_ms, law_need_costs_sp, least_by_layers_ms, least_by_layers_sp, steps_behind_ms, steps_behind_sp, least_by_steps_ms, least_by_steps_sp, law_worths_ms, law_worths_sp, law_some_work_ms, law_some_work_sp, law_added_ms, law_added_sp, law_held_ms, law_held_sp, slot_cost_ms, slot_cost_sp, serves_ms, serves_sp, starts_ms, starts_sp, stops_ms, stops_sp, running_cost_ms, running_cost_sp, row_cost_ms, row_cost_sp, law_some_row_ms, law_some_row_sp, least_numbers_ms, least_numbers_sp, bound_of_ms, bound_of_sp, law_bound_ms, law_bound_sp, best_by_layers_ms, best_by_layers_sp, law_best_row_ms, law_best_row_sp, span_of_ms, span_of_sp, prices_for_ms, prices_for_sp, paper_of_ms, paper_of_sp, is_integer_ms, is_integer_sp, are_integers_ms, are_integers_sp, first_where_ms, first_where_sp, is_least_ms, is_least_sp, judge_paper_ms, judge_paper_sp, law_price_fault_ms, law_price_fault_sp, law_need_fault_ms, law_need_fault_sp, row_layers_ms, row_layers_sp, SightRunner_init_ms, SightRunner_init_sp, SightRunner_look_ms, SightRunner_look_sp, run_sight_ms, run_sight_sp, sight_row_ms, sight_row_sp, law_mixed_ms, law_mixed_sp, law_some_sight_ms, law_some_sight_sp, law_sight_row_ms, law_sight_row_sp, law_shown_row_ms, law_shown_row_sp, LazyRunner_init_ms, LazyRunner_init_sp, LazyRunner_look_ms, LazyRunner_look_sp, run_lazy_ms, run_lazy_sp, lazy_account_ms, lazy_account_sp, lazy_row_ms, lazy_row_sp, law_bounds_ms, law_bounds_sp, law_lazy_ms, law_lazy_sp, law_far_ms, law_far_sp, law_dear_ms, law_dear_sp, law_draw_slots0_ms, law_draw_slots0_sp, law_between_ms, law_between_sp, tails_ms, tails_sp, sight_cost_ms, sight_cost_sp, sight_room_ms, sight_room_sp, law_prefixes_right_ms, law_prefixes_right_sp, law_worst_ms, law_worst_sp, law_need_price_ms, law_need_price_sp, em]
        refine ⟨by rw [szl]; decide, _, hs, by omega, m1, by omega, fun b w s1 b0 b1 w0 w1 hs1 => hV _ ⟨s1, b, w, _, _, _, _, _, _, _, _, _, _, rfl, hs1, b0, by omega, w0, w1⟩⟩
      rintro e ⟨src, b, w, x5, x6, x7, x8, x9, x10, x11, x12, x13, x14, rfl, hs, b0, b1, w0, w1⟩
      refine seq_mid (fun e => ∃ (src : D) (needs : List Int), ∃ x6 x7 x8 x9 x10 x11 x12 x13 x14, e = [some (.own 0, .list (ns.map .int)), some (.own 2, src), some (.own 0, .int lap), some (.own 0, .int b), some (.own 0, .int w), some (.own 0, .tuple (needs.map .int)), x6, x7, x8, x9, x10, x11, x12, x13, x14] ∧ Src (B + 1010) src ∧ needs.length ≤ 26 ∧ ∀ x ∈ needs, 0 ≤ x ∧ x ≤ 5) (fun V hV => ?_) ?_
      · walk_at "z18"
        refine ⟨_, hs, by omega, by decide, fun r s1 r0 r1 hs1 => ⟨by rw [szl]; decide, _, hs1, by omega, by rw [szl]; decide, fun x hx s2 hs2 => ?_⟩⟩
        obtain ⟨most, rfl, m1, m2⟩ : ∃ most : Int, x = .int most ∧ 1 ≤ most ∧ most ≤ 5 := by
          simp only [List.mem_cons, List.not_mem_nil, or_false] at hx
          rcases hx with rfl | rfl | rfl <;> exact ⟨_, rfl, by decide, by decide⟩
        refine ⟨_, _, _, _, rfl, hs2, by omega, by omega, by omega, m1, by omega, fun zs s3 hz hall hs3 => ?_⟩
        walk_at "z18"
        exact hV _ ⟨s3, zs, _, _, _, _, _, _, _, _, _, rfl, hs3.mono (by omega), by omega, fun x h => by have := hall x h; omega⟩
      rintro e ⟨src, needs, x6, x7, x8, x9, x10, x11, x12, x13, x14, rfl, hs, hl, hx⟩
      obtain ⟨row, hrow⟩ : ∃ row, row = sightR (b - 1 - w).toNat (aheadL needs fun _ => w.toNat) needs := ⟨_, rfl⟩
      have hrl : row.length = needs.length := by rw [hrow]; simp [sightR]
      have hx0 : ∀ x ∈ needs, 0 ≤ x := fun x h => (hx x h).1
      have hwN : ((w.toNat : Nat) : Int) = w := by omega
      have hprice := sight_cost_is (b := b) (w := w.toNat) (by omega) hx0
      rw [hwN, ← hrow] at hprice
      have hr : ∀ x ∈ row, 0 ≤ x ∧ x ≤ 1000 := fun x h => by
        rw [hrow] at h
        obtain ⟨u, hu, rfl⟩ := List.mem_map.mp h
        have hu := List.mem_range.mp hu
        have h1 := on_ge (many := (b - 1 - w).toNat) (hd := aheadL needs fun _ => w.toNat) (needs := needs) (u + 1)
        have h2 := on_top (many := (b - 1 - w).toNat) (hd := aheadL needs fun _ => w.toNat) (needs := needs) (u + 1) (by omega)
        have h3 := topN_le' (row := needs) (c := 5) (by decide) fun x h => (hx x h).2
        omega
      have zip_ge : ∀ p ∈ row.zip needs, p.2 ≤ p.1 := fun p hp => by
        obtain ⟨i, hi, e⟩ := List.getElem_of_mem hp
        rw [List.length_zip] at hi
        rw [List.getElem_zip] at e
        have h := on_need (many := (b - 1 - w).toNat) (hd := aheadL needs fun _ => w.toNat) (needs := needs) i
        rw [← e]
        have e1 : row[i]'(by omega) = (sRun (b - 1 - w).toNat (aheadL needs fun _ => w.toNat) needs (i + 1)).2 := by
          have : row[i]? = some (sRun (b - 1 - w).toNat (aheadL needs fun _ => w.toNat) needs (i + 1)).2 := by
            rw [hrow]
            unfold sightR
            rw [List.getElem?_map, List.getElem?_range (by omega)]
            rfl
          rw [List.getElem?_eq_getElem (by omega)] at this
          exact Option.some.inj this
        rw [List.getD_eq_getElem?_getD, List.getElem?_eq_getElem (by omega)] at h
        simp only
        rw [e1]
        exact h
      have hfirst := first_sentence (b := b) (w := w.toNat) (by omega) hx0
      rw [hwN, ← hrow, hprice] at hfirst
      have hleast := least_price (b := b) (w := w.toNat) (by omega) hx0
      rw [hwN] at hleast
      have hseen : w = b - 1 → sightC needs b w = layersCost needs b := fun h => by have := all_seen (b := b) (w := w.toNat) (by omega) hx0; rwa [hwN] at this
      have hlb := layers_bd (row := needs) (b := b) (c := 5) (by omega) (by decide) hx
      have hlm : (needs.length : Int) * b ≤ 26 * b := Int.mul_le_mul_of_nonneg_right (by omega) (by omega)
      have hcb : sightC needs b w ≤ (2 * b - w) * layersCost needs b := by
        have q : 1 * sightC needs b w ≤ (b + 1) * sightC needs b w := Int.mul_le_mul_of_nonneg_right (by omega) (by omega)
        omega
      have hcb2 : (2 * b - w) * layersCost needs b ≤ 24 * layersCost needs b := Int.mul_le_mul_of_nonneg_right (by omega) (by omega)
      refine seq_mid (fun e => ∃ x8 x9 x10 x11 x12 x13 x14, e = [some (.own 0, .list (ns.map .int)), some (.own 2, src), some (.own 0, .int lap), some (.own 0, .int b), some (.own 0, .int w), some (.own 0, .tuple (needs.map .int)), some (.own 0, .tuple (row.map .int)), some (.own 0, .int (layersCost needs b)), x8, x9, x10, x11, x12, x13, x14]) (fun V hV => ?_) ?_
      · walk_at "z18"
        refine ⟨needs, rfl, w0, w1, by omega, by omega, needs, rfl, by omega, fun x h => by have := hx x h; omega, ?_⟩
        rw [← hrow]
        exact hV _ ⟨_, _, _, _, _, _, _, rfl⟩
      rintro e ⟨x8, x9, x10, x11, x12, x13, x14, rfl⟩
      refine seq_mid (fun e => ∃ x9 x10 x11 x12 x13 x14, e = [some (.own 0, .list (ns.map .int)), some (.own 2, src), some (.own 0, .int lap), some (.own 0, .int b), some (.own 0, .int w), some (.own 0, .tuple (needs.map .int)), some (.own 0, .tuple (row.map .int)), some (.own 0, .int (layersCost needs b)), some (.own 0, .int (sightC needs b w)), x9, x10, x11, x12, x13, x14]) (fun V hV => ?_) ?_
      · walk_at "z18"
        refine ⟨row, rfl, by omega, hr, by omega, by omega, ?_⟩
        rw [hprice]
        exact hV _ ⟨_, _, _, _, _, _, rfl⟩
      rintro e ⟨x9, x10, x11, x12, x13, x14, rfl⟩
      refine seq_mid (fun e => ∃ x9 x10 x11 x12 x13 x14, e = [some (.own 0, .list (ns.map .int)), some (.own 2, src), some (.own 0, .int lap), some (.own 0, .int b), some (.own 0, .int w), some (.own 0, .tuple (needs.map .int)), some (.own 0, .tuple (row.map .int)), some (.own 0, .int (layersCost needs b)), some (.own 0, .int (sightC needs b w)), x9, x10, x11, x12, x13, x14]) (fun V hV => ?_) ?_
      · walk_at "z18"
        refine ⟨needs, rfl, by omega, fun x h => by have := hx x h; omega, by omega, by omega, w0, by omega, ?_⟩
        rw [if_neg (fun h => h rfl)]
        refine ⟨mul_small ⟨by omega, by omega⟩ ⟨by omega, by omega⟩, mul_small (by decide) ⟨by omega, by omega⟩, mul_small ⟨by omega, by omega⟩ ⟨by omega, by omega⟩, ?_⟩
        rw [if_neg (by omega), zip_ints]
        refine comp_on (p := fun p : Int × Int => PyData.tuple [.int p.1, .int p.2]) (f := fun _ => none) (I := fun e => ∃ y13 y14, e = [some (.own 0, .list (ns.map .int)), some (.own 2, src), some (.own 0, .int lap), some (.own 0, .int b), some (.own 0, .int w), some (.own 0, .tuple (needs.map .int)), some (.own 0, .tuple (row.map .int)), some (.own 0, .int (layersCost needs b)), some (.own 0, .int (sightC needs b w)), x9, x10, x11, x12, y13, y14]) ⟨_, _, rfl⟩ ?_ ?_
        · rintro p hp e ⟨y13, y14, rfl⟩ K hK
          have hge := zip_ge p hp
          walk_at "z19"
          rw [if_neg (by omega)]
          exact hK _ ⟨_, _, rfl⟩
        · rintro e ⟨y13, y14, rfl⟩
          have e0 : (row.zip needs).filterMap (fun _ => (none : Option D)) = [] := by simp
          rw [e0]
          walk_at "z18"
          refine ⟨by decide, ?_⟩
          rw [if_neg (by decide)]
          exact hV _ ⟨_, _, _, _, _, _, rfl⟩
      rintro e ⟨x9, x10, x11, x12, x13, x14, rfl⟩
      refine seq_mid (fun e => ∃ x9 x10 x11 x12 x13 x14, e = [some (.own 0, .list (ns.map .int)), some (.own 2, src), some (.own 0, .int lap), some (.own 0, .int b), some (.own 0, .int w), some (.own 0, .tuple (needs.map .int)), some (.own 0, .tuple (row.map .int)), some (.own 0, .int (layersCost needs b)), some (.own 0, .int (sightC needs b w)), x9, x10, x11, x12, x13, x14]) (fun V hV => ?_) ?_
      · walk_at "z18"
        have hpre : (List.map PyData.int row = List.map PyData.int (sightR (b - 1 - w).toNat (aheadL needs fun _ => w.toNat) needs)) := by rw [hrow]
        have hfin : (V [some (.own 0, .list (ns.map .int)), some (.own 2, src), some (.own 0, .int lap), some (.own 0, .int b), some (.own 0, .int w), some (.own 0, .tuple (needs.map .int)), some (.own 0, .tuple (row.map .int)), some (.own 0, .int (layersCost needs b)), some (.own 0, .int (sightC needs b w)), x9, x10, x11, x12, x13, x14]) := hV _ ⟨_, _, _, _, _, _, rfl⟩
        by_cases c : w = b - 1
        · rw [if_pos c, if_neg (fun h => h (hseen c)), if_neg (by omega)]
          refine ⟨needs, rfl, hpre, by omega, fun x h => by have := hx x h; omega, w0, w1, by omega, ?_⟩
          rw [tru_bool, if_neg (by decide)]
          exact hfin
        · rw [if_neg c, if_neg (by omega)]
          refine ⟨needs, rfl, hpre, by omega, fun x h => by have := hx x h; omega, w0, w1, by omega, ?_⟩
          rw [tru_bool, if_neg (by decide)]
          exact hfin
      rintro e ⟨x9, x10, x11, x12, x13, x14, rfl⟩
      refine seq_mid (fun e => ∃ (src : D) (gs : List Nat) (high : Int), ∃ x5 x6 x7 x8 x12 x13 x14, e = [some (.own 0, .list (ns.map .int)), some (.own 2, src), some (.own 0, .int lap), some (.own 0, .int b), some (.own 0, .int w), x5, x6, x7, x8, some (.own 0, .tuple ((worstF b.toNat high gs).map .int)), some (.own 0, .int (gs.length : Nat)), some (.own 0, .int high), x12, x13, x14] ∧ Src (B + 1020) src ∧ gs ≠ [] ∧ gs.length ≤ 5 ∧ (∀ g ∈ gs, g ≤ 3) ∧ 1 ≤ high ∧ high ≤ 3) (fun V hV => ?_) ?_
      · walk_at "z18"
        refine ⟨_, hs, by omega, by omega, by omega, fun gs high s2 g0 g1 g2 h0 h1 hs2 => ?_⟩
        exact hV _ ⟨s2, gs, high, _, _, _, _, _, _, _, rfl, hs2.mono (by omega), g0, g1, g2, h0, h1⟩
      rintro e ⟨src, gs, high, x5, x6, x7, x8, x12, x13, x14, rfl, hs, g0, g1, g2, h0, h1⟩
      have hWp := worst_price (b := b.toNat) (w := w.toNat) (high := high) (by omega) h0 g0
      have hWl := worst_least (b := b.toNat) (high := high) h0 g0
      rw [hwN, show ((b.toNat : Nat) : Int) = b by omega] at hWp
      rw [show ((b.toNat : Nat) : Int) = b by omega] at hWl
      have hwm := worst_mem (b := b.toNat) (high := high) (by omega) (gs := gs)
      have hwl := worst_len (b := b.toNat) (high := high) g2
      have hwl2 : gs.length * (b.toNat + 4) ≤ 5 * 16 := Nat.mul_le_mul g1 (by omega)
      obtain ⟨wr, hwr⟩ : ∃ wr, wr = worstF b.toNat high gs := ⟨_, rfl⟩
      rw [← hwr] at hWp hWl hwm hwl
      rw [← hwr]
      have gp : (gs.length : Int) * (2 * b - w) ≤ 5 * (2 * b - w) := Int.mul_le_mul_of_nonneg_right (by omega) (by omega)
      obtain ⟨rw', hrw'⟩ : ∃ rw', rw' = sightR (b - 1 - w).toNat (aheadL wr fun _ => w.toNat) wr := ⟨_, rfl⟩
      rw [← hrw'] at hWp
      have hr2l : rw'.length = wr.length := by rw [hrw']; simp [sightR]
      have hr2 : ∀ x ∈ rw', 0 ≤ x ∧ x ≤ 1000 := fun x h => by
        rw [hrw'] at h
        obtain ⟨u, hu, rfl⟩ := List.mem_map.mp h
        have hu := List.mem_range.mp hu
        have q1 := on_ge (many := (b - 1 - w).toNat) (hd := aheadL wr fun _ => w.toNat) (needs := wr) (u + 1)
        have q2 := on_top (many := (b - 1 - w).toNat) (hd := aheadL wr fun _ => w.toNat) (needs := wr) (u + 1) (by omega)
        have q3 := topN_le' (row := wr) (c := 3) (by decide) fun x h => by have := hwm x h; omega
        omega
      have lb0 : 0 ≤ (gs.length : Int) * (2 * b - w) := Int.mul_nonneg (by omega) (by omega)
      have lb1 : high * ((gs.length : Int) * (2 * b - w)) ≤ 3 * ((gs.length : Int) * (2 * b - w)) := Int.mul_le_mul_of_nonneg_right h1 lb0
      have lb2 : 0 ≤ high * ((gs.length : Int) * (2 * b - w)) := Int.mul_nonneg (by omega) lb0
      have lc0 : 0 ≤ (gs.length : Int) * (1 + b) := Int.mul_nonneg (by omega) (by omega)
      have lc1 : (gs.length : Int) * (1 + b) ≤ 5 * (1 + b) := Int.mul_le_mul_of_nonneg_right (by omega) (by omega)
      have lc2 : high * ((gs.length : Int) * (1 + b)) ≤ 3 * ((gs.length : Int) * (1 + b)) := Int.mul_le_mul_of_nonneg_right h1 lc0
      have lc3 : 0 ≤ high * ((gs.length : Int) * (1 + b)) := Int.mul_nonneg (by omega) lc0
      have lh0 : 0 ≤ (gs.length : Int) * high := Int.mul_nonneg (by omega) (by omega)
      have lh1 : (gs.length : Int) * high ≤ 5 * high := Int.mul_le_mul_of_nonneg_right (by omega) (by omega)
      refine seq_mid (fun e => ∃ x5 x6 x7 x12 x13 x14, e = [some (.own 0, .list (ns.map .int)), some (.own 2, src), some (.own 0, .int lap), some (.own 0, .int b), some (.own 0, .int w), x5, x6, x7, some (.own 0, .int (high * ((gs.length : Int) * (2 * b - w)))), some (.own 0, .tuple (wr.map .int)), some (.own 0, .int (gs.length : Nat)), some (.own 0, .int high), x12, x13, x14]) (fun V hV => ?_) ?_
      · walk_at "z18"
        refine ⟨wr, rfl, w0, w1, by omega, by omega, ?_⟩
        rw [← hrw']
        refine ⟨rw', rfl, by omega, hr2, by omega, by omega, ?_⟩
        rw [hWp]
        exact hV _ ⟨_, _, _, _, _, _, rfl⟩
      rintro e ⟨x5, x6, x7, x12, x13, x14, rfl⟩
      walk_at "z18"
      have eq1 : high * ((gs.length : Int) * (2 * b - w)) = (gs.length : Int) * high * (2 * b - w) := by rw [← Int.mul_assoc, Int.mul_comm high]
      have eq2 : (b + 1) * (high * ((gs.length : Int) * (2 * b - w))) = (2 * b - w) * layersCost wr b := by
        rw [hWl, Int.add_comm 1 b]
        generalize 2 * b - w = c
        generalize b + 1 = d
        generalize (gs.length : Int) = l
        ac_rfl
      have lx1 : layersCost wr b ≤ 3 * (5 * (1 + b)) := by rw [hWl]; omega
      have lx0 : 0 ≤ layersCost wr b := by rw [hWl]; exact lc3
      refine ⟨mul_small ⟨by omega, by omega⟩ ⟨by omega, by omega⟩, mul_small (by decide) ⟨by omega, by omega⟩, mul_small ⟨by omega, by omega⟩ ⟨by omega, by omega⟩, ?_⟩
      rw [if_neg (fun h => h eq1)]
      refine ⟨mul_small ⟨by omega, by omega⟩ ⟨by omega, by omega⟩, mul_small (by decide) ⟨by omega, by omega⟩, wr, rfl, by omega, fun x h => by have := hwm x h; omega, mul_small ⟨by omega, by omega⟩ ⟨by omega, by omega⟩, ?_⟩
      rw [if_neg (fun h => h eq2)]
      exact hW' _ _ _ _ _ _ _ _ _ _ _ _ _ _ (hs.mono (by omega))
    · rintro e ⟨src, x2, x3, x4, x5, x6, x7, x8, x9, x10, x11, x12, x13, x14, rfl, hs⟩
      exact hV _ ⟨src, _, _, _, _, _, _, _, _, _, _, _, _, _, rfl⟩
  rintro e ⟨src, x2, x3, x4, x5, x6, x7, x8, x9, x10, x11, x12, x13, x14, rfl⟩
  walk_at "z18"
  have hS : sightR (2 - 1 - 1 : Int).toNat (aheadL [1, 0, 1] fun _ => Int.toNat 1) [1, 0, 1] = [1, 1, 1] := by decide +kernel
  have hc : cut ([1, 1, 1].map PyData.int) none (some 2) = [1, 1].map PyData.int := rfl
  have p1 : ([1, 1] : List Int).sum + 2 * startsF 0 [1, 1] = 4 := by decide
  have p2 : layersCost [1, 0] 2 = 3 := by decide +kernel
  have p3 : layersCost [1, 0, 1] 2 = 5 := by decide +kernel
  refine ⟨by decide, [1, 0, 1], rfl, by decide, by decide, by decide, by decide, ?_⟩
  rw [hS, hc]
  refine ⟨[1, 1], rfl, by decide, by decide, by decide, by decide, by decide, [1, 0], rfl, by decide, by decide, by decide, [1, 0, 1], rfl, by decide, by decide, by decide, by decide, ?_⟩
  rw [p1, p2, p3]
  exact ⟨⟨by decide, by decide⟩, hR⟩
end K43
namespace K43
open PySem PySem.Spec PyProof.Rows L2 Sq
theorem ok_closed_by {P : Program} {w : World} {K : Frag} {mg : Str → Option Value} {base : Heap} {f : Addr} {fd : FuncData} {k : Nat} (Fn : Fun K "closed_by" "closed_by" t_closed_by f fd) (m_max : mg "max" = none) (m_min : mg "min" = none)   : FnG P w K mg base (k + 1) f fd ["needs", "kept", "tick"] (spV K F_closed_by) :=
  fs_of (b := b_closed_by) Fn sc_closed_by rfl (by
    intro ds R h
    first
      | (obtain ⟨rfl, _⟩ := h; rfl)
      | (obtain ⟨_, rfl, _⟩ := h; rfl)
      | (obtain ⟨_, _, rfl, _⟩ := h; rfl)
      | (obtain ⟨_, _, _, rfl, _⟩ := h; rfl)
      | (obtain ⟨_, _, _, _, rfl, _⟩ := h; rfl)
      | (obtain ⟨_, _, _, _, _, rfl, _⟩ := h; rfl)
      | (obtain ⟨_, _, _, _, _, _, rfl, _⟩ := h; rfl)
      | (obtain ⟨_, _, _, _, _, _, _, rfl, _⟩ := h; rfl)
      | (obtain ⟨_, _, _, _, _, _, _, _, rfl, _⟩ := h; rfl)
      | (obtain ⟨_, _, _, _, _, _, _, _, _, rfl, _⟩ := h; rfl)) (fun cdv A up s H hr hgd => w_closed_by hr hgd m_max m_min) Sq.law_closed_by
theorem ok_valleys {P : Program} {w : World} {K : Frag} {mg : Str → Option Value} {base : Heap} {f : Addr} {fd : FuncData} {k : Nat} (Fn : Fun K "valleys" "valleys" t_valleys f fd) (m_len : mg "len" = none) (m_range : mg "range" = none) (m_sorted : mg "sorted" = none)  (c_closed_by : CalS P w K mg base k "closed_by" F_closed_by) : FnG P w K mg base (k + 1) f fd ["needs"] (spV K F_valleys) :=
  fs_of (b := b_valleys) Fn sc_valleys rfl (by
    intro ds R h
    first
      | (obtain ⟨rfl, _⟩ := h; rfl)
      | (obtain ⟨_, rfl, _⟩ := h; rfl)
      | (obtain ⟨_, _, rfl, _⟩ := h; rfl)
      | (obtain ⟨_, _, _, rfl, _⟩ := h; rfl)
      | (obtain ⟨_, _, _, _, rfl, _⟩ := h; rfl)
      | (obtain ⟨_, _, _, _, _, rfl, _⟩ := h; rfl)
      | (obtain ⟨_, _, _, _, _, _, rfl, _⟩ := h; rfl)
      | (obtain ⟨_, _, _, _, _, _, _, rfl, _⟩ := h; rfl)
      | (obtain ⟨_, _, _, _, _, _, _, _, rfl, _⟩ := h; rfl)
      | (obtain ⟨_, _, _, _, _, _, _, _, _, rfl, _⟩ := h; rfl)) (fun cdv A up s H hr hgd => w_valleys hr hgd m_len m_range m_sorted c_closed_by) Sq.law_valleys
theorem ok_SightRunner_look {P : Program} {w : World} {K : Frag} {mg : Str → Option Value} {base : Heap} {f : Addr} {fd : FuncData} {k : Nat} (Fn : Fun K "look" "SightRunner.look" t_SightRunner_look f fd) (m_len : mg "len" = none) (m_max : mg "max" = none) (m_min : mg "min" = none)   (f_SightRunner_on : FldC K "SightRunner" "on") (f_SightRunner_past : FldC K "SightRunner" "past") : FnG P w K mg base (k + 1) f fd ["self", "seen"] (spV K F_SightRunner_look) :=
  fs_of (b := b_SightRunner_look) Fn sc_SightRunner_look rfl (by
    intro ds R h
    first
      | (obtain ⟨rfl, _⟩ := h; rfl)
      | (obtain ⟨_, rfl, _⟩ := h; rfl)
      | (obtain ⟨_, _, rfl, _⟩ := h; rfl)
      | (obtain ⟨_, _, _, rfl, _⟩ := h; rfl)
      | (obtain ⟨_, _, _, _, rfl, _⟩ := h; rfl)
      | (obtain ⟨_, _, _, _, _, rfl, _⟩ := h; rfl)
      | (obtain ⟨_, _, _, _, _, _, rfl, _⟩ := h; rfl)
      | (obtain ⟨_, _, _, _, _, _, _, rfl, _⟩ := h; rfl)
      | (obtain ⟨_, _, _, _, _, _, _, _, rfl, _⟩ := h; rfl)
      | (obtain ⟨_, _, _, _, _, _, _, _, _, rfl, _⟩ := h; rfl)) (fun cdv A up s H hr hgd => w_SightRunner_look hr hgd m_len m_max m_min f_SightRunner_on f_SightRunner_past) Sq.law_SightRunner_look
theorem ok_run {P : Program} {w : World} {K : Frag} {mg : Str → Option Value} {base : Heap} {f : Addr} {fd : FuncData} {k : Nat} (Fn : Fun K "run" "run" t_run f fd) (m_len : mg "len" = none) (m_range : mg "range" = none) (m_tuple : mg "tuple" = none)  (c_SightRunner_look : CalM P w K mg base k "SightRunner" "look" F_SightRunner_look) : FnG P w K mg base (k + 1) f fd ["runner", "row", "w"] (spV K F_run_sight) :=
  fs_of (b := b_run) Fn sc_run rfl (by
    intro ds R h
    first
      | (obtain ⟨rfl, _⟩ := h; rfl)
      | (obtain ⟨_, rfl, _⟩ := h; rfl)
      | (obtain ⟨_, _, rfl, _⟩ := h; rfl)
      | (obtain ⟨_, _, _, rfl, _⟩ := h; rfl)
      | (obtain ⟨_, _, _, _, rfl, _⟩ := h; rfl)
      | (obtain ⟨_, _, _, _, _, rfl, _⟩ := h; rfl)
      | (obtain ⟨_, _, _, _, _, _, rfl, _⟩ := h; rfl)
      | (obtain ⟨_, _, _, _, _, _, _, rfl, _⟩ := h; rfl)
      | (obtain ⟨_, _, _, _, _, _, _, _, rfl, _⟩ := h; rfl)
      | (obtain ⟨_, _, _, _, _, _, _, _, _, rfl, _⟩ := h; rfl)) (fun cdv A up s H hr hgd => w_run hr hgd m_len m_range m_tuple c_SightRunner_look) Sq.law_run_sight
theorem ok_SightRunner_init {P : Program} {w : World} {K : Frag} {mg : Str → Option Value} {base : Heap} {f : Addr} {fd : FuncData} {k : Nat} (Fn : Fun K "__init__" "SightRunner.__init__" t_SightRunner_init f fd)    (f_SightRunner_many : FldC K "SightRunner" "many") (f_SightRunner_w : FldC K "SightRunner" "w") (f_SightRunner_past : FldC K "SightRunner" "past") (f_SightRunner_on : FldC K "SightRunner" "on") : FnG P w K mg base (k + 1) f fd ["self", "b", "w"] (spV K F_SightRunner_init) :=
  fs_of (b := b_SightRunner_init) Fn sc_SightRunner_init rfl (by
    intro ds R h
    first
      | (obtain ⟨rfl, _⟩ := h; rfl)
      | (obtain ⟨_, rfl, _⟩ := h; rfl)
      | (obtain ⟨_, _, rfl, _⟩ := h; rfl)
      | (obtain ⟨_, _, _, rfl, _⟩ := h; rfl)
      | (obtain ⟨_, _, _, _, rfl, _⟩ := h; rfl)
      | (obtain ⟨_, _, _, _, _, rfl, _⟩ := h; rfl)
      | (obtain ⟨_, _, _, _, _, _, rfl, _⟩ := h; rfl)
      | (obtain ⟨_, _, _, _, _, _, _, rfl, _⟩ := h; rfl)
      | (obtain ⟨_, _, _, _, _, _, _, _, rfl, _⟩ := h; rfl)
      | (obtain ⟨_, _, _, _, _, _, _, _, _, rfl, _⟩ := h; rfl)) (fun cdv A up s H hr hgd => w_SightRunner_init hr hgd f_SightRunner_many f_SightRunner_w f_SightRunner_past f_SightRunner_on) Sq.law_SightRunner_init
theorem ok_sight_row {P : Program} {w : World} {K : Frag} {mg : Str → Option Value} {base : Heap} {f : Addr} {fd : FuncData} {k : Nat} (Fn : Fun K "sight_row" "sight_row" t_sight_row f fd)   {kc : Nat} (hkc : kc + 1 ≤ k) (c_run : CalS P w K mg base k "run" F_run_sight) (c_SightRunner_init : CalC P w K mg base kc "SightRunner" F_SightRunner_init) : FnG P w K mg base (k + 1) f fd ["needs", "b", "w"] (spV K F_sight_row) :=
  fs_of (b := b_sight_row) Fn sc_sight_row rfl (by
    intro ds R h
    first
      | (obtain ⟨rfl, _⟩ := h; rfl)
      | (obtain ⟨_, rfl, _⟩ := h; rfl)
      | (obtain ⟨_, _, rfl, _⟩ := h; rfl)
      | (obtain ⟨_, _, _, rfl, _⟩ := h; rfl)
      | (obtain ⟨_, _, _, _, rfl, _⟩ := h; rfl)
      | (obtain ⟨_, _, _, _, _, rfl, _⟩ := h; rfl)
      | (obtain ⟨_, _, _, _, _, _, rfl, _⟩ := h; rfl)
      | (obtain ⟨_, _, _, _, _, _, _, rfl, _⟩ := h; rfl)
      | (obtain ⟨_, _, _, _, _, _, _, _, rfl, _⟩ := h; rfl)
      | (obtain ⟨_, _, _, _, _, _, _, _, _, rfl, _⟩ := h; rfl)) (fun cdv A up s H hr hgd => w_sight_row hr hgd hkc c_run c_SightRunner_init) Sq.law_sight_row
theorem ok_tails {P : Program} {w : World} {K : Frag} {mg : Str → Option Value} {base : Heap} {f : Addr} {fd : FuncData} {k : Nat} (Fn : Fun K "tails" "tails" t_tails f fd) (m_len : mg "len" = none) (m_max : mg "max" = none) (m_range : mg "range" = none)   : FnG P w K mg base (k + 1) f fd ["needs"] (spV K F_tails) :=
  fs_of (b := b_tails) Fn sc_tails rfl (by
    intro ds R h
    first
      | (obtain ⟨rfl, _⟩ := h; rfl)
      | (obtain ⟨_, rfl, _⟩ := h; rfl)
      | (obtain ⟨_, _, rfl, _⟩ := h; rfl)
      | (obtain ⟨_, _, _, rfl, _⟩ := h; rfl)
      | (obtain ⟨_, _, _, _, rfl, _⟩ := h; rfl)
      | (obtain ⟨_, _, _, _, _, rfl, _⟩ := h; rfl)
      | (obtain ⟨_, _, _, _, _, _, rfl, _⟩ := h; rfl)
      | (obtain ⟨_, _, _, _, _, _, _, rfl, _⟩ := h; rfl)
      | (obtain ⟨_, _, _, _, _, _, _, _, rfl, _⟩ := h; rfl)
      | (obtain ⟨_, _, _, _, _, _, _, _, _, rfl, _⟩ := h; rfl)) (fun cdv A up s H hr hgd => w_tails hr hgd m_len m_max m_range) Sq.law_tails
theorem ok_sight_cost {P : Program} {w : World} {K : Frag} {mg : Str → Option Value} {base : Heap} {f : Addr} {fd : FuncData} {k : Nat} (Fn : Fun K "sight_cost" "sight_cost" t_sight_cost f fd) (m_max : mg "max" = none) (m_min : mg "min" = none) (m_sum : mg "sum" = none)  (c_valleys : CalS P w K mg base k "valleys" F_valleys) (c_tails : CalS P w K mg base k "tails" F_tails) : FnG P w K mg base (k + 1) f fd ["needs", "b", "w"] (spV K F_sight_cost) :=
  fs_of (b := b_sight_cost) Fn sc_sight_cost rfl (by
    intro ds R h
    first
      | (obtain ⟨rfl, _⟩ := h; rfl)
      | (obtain ⟨_, rfl, _⟩ := h; rfl)
      | (obtain ⟨_, _, rfl, _⟩ := h; rfl)
      | (obtain ⟨_, _, _, rfl, _⟩ := h; rfl)
      | (obtain ⟨_, _, _, _, rfl, _⟩ := h; rfl)
      | (obtain ⟨_, _, _, _, _, rfl, _⟩ := h; rfl)
      | (obtain ⟨_, _, _, _, _, _, rfl, _⟩ := h; rfl)
      | (obtain ⟨_, _, _, _, _, _, _, rfl, _⟩ := h; rfl)
      | (obtain ⟨_, _, _, _, _, _, _, _, rfl, _⟩ := h; rfl)
      | (obtain ⟨_, _, _, _, _, _, _, _, _, rfl, _⟩ := h; rfl)) (fun cdv A up s H hr hgd => w_sight_cost hr hgd m_max m_min m_sum c_valleys c_tails) Sq.law_sight_cost
theorem ok__law_source {P : Program} {w : World} {K : Frag} {mg : Str → Option Value} {base : Heap} {f : Addr} {fd : FuncData} {k : Nat} (Fn : Fun K "_law_source" "_law_source" t__law_source f fd) (m_abs : mg "abs" = none) (m_int : mg "int" = none)   : FnG P w K mg base (k + 1) f fd ["script"] (spV K F__law_source) :=
  fs_of (b := b__law_source) Fn sc__law_source rfl (by
    intro ds R h
    first
      | (obtain ⟨rfl, _⟩ := h; rfl)
      | (obtain ⟨_, rfl, _⟩ := h; rfl)
      | (obtain ⟨_, _, rfl, _⟩ := h; rfl)
      | (obtain ⟨_, _, _, rfl, _⟩ := h; rfl)
      | (obtain ⟨_, _, _, _, rfl, _⟩ := h; rfl)
      | (obtain ⟨_, _, _, _, _, rfl, _⟩ := h; rfl)
      | (obtain ⟨_, _, _, _, _, _, rfl, _⟩ := h; rfl)
      | (obtain ⟨_, _, _, _, _, _, _, rfl, _⟩ := h; rfl)
      | (obtain ⟨_, _, _, _, _, _, _, _, rfl, _⟩ := h; rfl)
      | (obtain ⟨_, _, _, _, _, _, _, _, _, rfl, _⟩ := h; rfl)) (fun cdv A up s H hr hgd => w__law_source hr hgd m_abs m_int) Sq.law_source
theorem ok__law_pick {P : Program} {w : World} {K : Frag} {mg : Str → Option Value} {base : Heap} {f : Addr} {fd : FuncData} {k : Nat} (Fn : Fun K "_law_pick" "_law_pick" t__law_pick f fd) (m_int : mg "int" = none) (m_len : mg "len" = none) (m_max : mg "max" = none)   : FnG P w K mg base (k + 1) f fd ["source", "many"] (spV K F__law_pick) :=
  fs_of (b := b__law_pick) Fn sc__law_pick rfl (by
    intro ds R h
    first
      | (obtain ⟨rfl, _⟩ := h; rfl)
      | (obtain ⟨_, rfl, _⟩ := h; rfl)
      | (obtain ⟨_, _, rfl, _⟩ := h; rfl)
      | (obtain ⟨_, _, _, rfl, _⟩ := h; rfl)
      | (obtain ⟨_, _, _, _, rfl, _⟩ := h; rfl)
      | (obtain ⟨_, _, _, _, _, rfl, _⟩ := h; rfl)
      | (obtain ⟨_, _, _, _, _, _, rfl, _⟩ := h; rfl)
      | (obtain ⟨_, _, _, _, _, _, _, rfl, _⟩ := h; rfl)
      | (obtain ⟨_, _, _, _, _, _, _, _, rfl, _⟩ := h; rfl)
      | (obtain ⟨_, _, _, _, _, _, _, _, _, rfl, _⟩ := h; rfl)) (fun cdv A up s H hr hgd => w__law_pick hr hgd m_int m_len m_max) Sq.law_pick
theorem ok__law_of {P : Program} {w : World} {K : Frag} {mg : Str → Option Value} {base : Heap} {f : Addr} {fd : FuncData} {k : Nat} (Fn : Fun K "_law_of" "_law_of" t__law_of f fd) (m_len : mg "len" = none)  (c__law_pick : CalS P w K mg base k "_law_pick" F__law_pick) : FnG P w K mg base (k + 1) f fd ["source", "some"] (spV K F__law_of) :=
  fs_of (b := b__law_of) Fn sc__law_of rfl (by
    intro ds R h
    first
      | (obtain ⟨rfl, _⟩ := h; rfl)
      | (obtain ⟨_, rfl, _⟩ := h; rfl)
      | (obtain ⟨_, _, rfl, _⟩ := h; rfl)
      | (obtain ⟨_, _, _, rfl, _⟩ := h; rfl)
      | (obtain ⟨_, _, _, _, rfl, _⟩ := h; rfl)
      | (obtain ⟨_, _, _, _, _, rfl, _⟩ := h; rfl)
      | (obtain ⟨_, _, _, _, _, _, rfl, _⟩ := h; rfl)
      | (obtain ⟨_, _, _, _, _, _, _, rfl, _⟩ := h; rfl)
      | (obtain ⟨_, _, _, _, _, _, _, _, rfl, _⟩ := h; rfl)
      | (obtain ⟨_, _, _, _, _, _, _, _, _, rfl, _⟩ := h; rfl)) (fun cdv A up s H hr hgd => w__law_of hr hgd m_len c__law_pick) Sq.law_of
theorem ok__law_starts {P : Program} {w : World} {K : Frag} {mg : Str → Option Value} {base : Heap} {f : Addr} {fd : FuncData} {k : Nat} (Fn : Fun K "_law_starts" "_law_starts" t__law_starts f fd) (m_len : mg "len" = none) (m_max : mg "max" = none) (m_range : mg "range" = none) (m_sum : mg "sum" = none)   : FnG P w K mg base (k + 1) f fd ["row"] (spV K F__law_starts) :=
  fs_of (b := b__law_starts) Fn sc__law_starts rfl (by
    intro ds R h
    first
      | (obtain ⟨rfl, _⟩ := h; rfl)
      | (obtain ⟨_, rfl, _⟩ := h; rfl)
      | (obtain ⟨_, _, rfl, _⟩ := h; rfl)
      | (obtain ⟨_, _, _, rfl, _⟩ := h; rfl)
      | (obtain ⟨_, _, _, _, rfl, _⟩ := h; rfl)
      | (obtain ⟨_, _, _, _, _, rfl, _⟩ := h; rfl)
      | (obtain ⟨_, _, _, _, _, _, rfl, _⟩ := h; rfl)
      | (obtain ⟨_, _, _, _, _, _, _, rfl, _⟩ := h; rfl)
      | (obtain ⟨_, _, _, _, _, _, _, _, rfl, _⟩ := h; rfl)
      | (obtain ⟨_, _, _, _, _, _, _, _, _, rfl, _⟩ := h; rfl)) (fun cdv A up s H hr hgd => w__law_starts hr hgd m_len m_max m_range m_sum) Sq.law__law_starts
theorem ok__law_draw_needs {P : Program} {w : World} {K : Frag} {mg : Str → Option Value} {base : Heap} {f : Addr} {fd : FuncData} {k : Nat} (Fn : Fun K "_law_draw_needs" "_law_draw_needs" t__law_draw_needs f fd) (m_len : mg "len" = none) (m_max : mg "max" = none) (m_min : mg "min" = none) (m_tuple : mg "tuple" = none)  (c__law_pick : CalS P w K mg base k "_law_pick" F__law_pick) (c__law_of : CalS P w K mg base k "_law_of" F__law_of) : FnG P w K mg base (k + 1) f fd ["source", "ticks", "most"] (spV K F__law_draw_needs) :=
  fs_of (b := b__law_draw_needs) Fn sc__law_draw_needs rfl (by
    intro ds R h
    first
      | (obtain ⟨rfl, _⟩ := h; rfl)
      | (obtain ⟨_, rfl, _⟩ := h; rfl)
      | (obtain ⟨_, _, rfl, _⟩ := h; rfl)
      | (obtain ⟨_, _, _, rfl, _⟩ := h; rfl)
      | (obtain ⟨_, _, _, _, rfl, _⟩ := h; rfl)
      | (obtain ⟨_, _, _, _, _, rfl, _⟩ := h; rfl)
      | (obtain ⟨_, _, _, _, _, _, rfl, _⟩ := h; rfl)
      | (obtain ⟨_, _, _, _, _, _, _, rfl, _⟩ := h; rfl)
      | (obtain ⟨_, _, _, _, _, _, _, _, rfl, _⟩ := h; rfl)
      | (obtain ⟨_, _, _, _, _, _, _, _, _, rfl, _⟩ := h; rfl)) (fun cdv A up s H hr hgd => w__law_draw_needs hr hgd m_len m_max m_min m_tuple c__law_pick c__law_of) Sq.law_draw
theorem ok__law_gaps {P : Program} {w : World} {K : Frag} {mg : Str → Option Value} {base : Heap} {f : Addr} {fd : FuncData} {k : Nat} (Fn : Fun K "_law_gaps" "_law_gaps" t__law_gaps f fd) (m_len : mg "len" = none) (m_range : mg "range" = none) (m_zip : mg "zip" = none)   : FnG P w K mg base (k + 1) f fd ["needs", "k"] (spV K F__law_gaps) :=
  fs_of (b := b__law_gaps) Fn sc__law_gaps rfl (by
    intro ds R h
    first
      | (obtain ⟨rfl, _⟩ := h; rfl)
      | (obtain ⟨_, rfl, _⟩ := h; rfl)
      | (obtain ⟨_, _, rfl, _⟩ := h; rfl)
      | (obtain ⟨_, _, _, rfl, _⟩ := h; rfl)
      | (obtain ⟨_, _, _, _, rfl, _⟩ := h; rfl)
      | (obtain ⟨_, _, _, _, _, rfl, _⟩ := h; rfl)
      | (obtain ⟨_, _, _, _, _, _, rfl, _⟩ := h; rfl)
      | (obtain ⟨_, _, _, _, _, _, _, rfl, _⟩ := h; rfl)
      | (obtain ⟨_, _, _, _, _, _, _, _, rfl, _⟩ := h; rfl)
      | (obtain ⟨_, _, _, _, _, _, _, _, _, rfl, _⟩ := h; rfl)) (fun cdv A up s H hr hgd => w__law_gaps hr hgd m_len m_range m_zip) Sq.law_gaps
theorem ok__law_layers_cost {P : Program} {w : World} {K : Frag} {mg : Str → Option Value} {base : Heap} {f : Addr} {fd : FuncData} {k : Nat} (Fn : Fun K "_law_layers_cost" "_law_layers_cost" t__law_layers_cost f fd) (m_list : mg "list" = none) (m_max : mg "max" = none) (m_min : mg "min" = none) (m_range : mg "range" = none) (m_sum : mg "sum" = none)  (c__law_gaps : CalS P w K mg base k "_law_gaps" F__law_gaps) : FnG P w K mg base (k + 1) f fd ["needs", "b"] (spV K F__law_layers_cost) :=
  fs_of (b := b__law_layers_cost) Fn sc__law_layers_cost rfl (by
    intro ds R h
    first
      | (obtain ⟨rfl, _⟩ := h; rfl)
      | (obtain ⟨_, rfl, _⟩ := h; rfl)
      | (obtain ⟨_, _, rfl, _⟩ := h; rfl)
      | (obtain ⟨_, _, _, rfl, _⟩ := h; rfl)
      | (obtain ⟨_, _, _, _, rfl, _⟩ := h; rfl)
      | (obtain ⟨_, _, _, _, _, rfl, _⟩ := h; rfl)
      | (obtain ⟨_, _, _, _, _, _, rfl, _⟩ := h; rfl)
      | (obtain ⟨_, _, _, _, _, _, _, rfl, _⟩ := h; rfl)
      | (obtain ⟨_, _, _, _, _, _, _, _, rfl, _⟩ := h; rfl)
      | (obtain ⟨_, _, _, _, _, _, _, _, _, rfl, _⟩ := h; rfl)) (fun cdv A up s H hr hgd => w__law_layers_cost hr hgd m_list m_max m_min m_range m_sum c__law_gaps) Sq.law__law_layers_cost
theorem ok__law_some_sight {P : Program} {w : World} {K : Frag} {mg : Str → Option Value} {base : Heap} {f : Addr} {fd : FuncData} {k : Nat} (Fn : Fun K "_law_some_sight" "_law_some_sight" t__law_some_sight f fd)   (c__law_pick : CalS P w K mg base k "_law_pick" F__law_pick) (c__law_of : CalS P w K mg base k "_law_of" F__law_of) : FnG P w K mg base (k + 1) f fd ["source", "most"] (spV K F__law_some_sight) :=
  fs_of (b := b__law_some_sight) Fn sc__law_some_sight rfl (by
    intro ds R h
    first
      | (obtain ⟨rfl, _⟩ := h; rfl)
      | (obtain ⟨_, rfl, _⟩ := h; rfl)
      | (obtain ⟨_, _, rfl, _⟩ := h; rfl)
      | (obtain ⟨_, _, _, rfl, _⟩ := h; rfl)
      | (obtain ⟨_, _, _, _, rfl, _⟩ := h; rfl)
      | (obtain ⟨_, _, _, _, _, rfl, _⟩ := h; rfl)
      | (obtain ⟨_, _, _, _, _, _, rfl, _⟩ := h; rfl)
      | (obtain ⟨_, _, _, _, _, _, _, rfl, _⟩ := h; rfl)
      | (obtain ⟨_, _, _, _, _, _, _, _, rfl, _⟩ := h; rfl)
      | (obtain ⟨_, _, _, _, _, _, _, _, _, rfl, _⟩ := h; rfl)) (fun cdv A up s H hr hgd => w__law_some_sight hr hgd c__law_pick c__law_of) Sq.law__law_some_sight
theorem ok__law_need_price {P : Program} {w : World} {K : Frag} {mg : Str → Option Value} {base : Heap} {f : Addr} {fd : FuncData} {k : Nat} (Fn : Fun K "_law_need_price" "_law_need_price" t__law_need_price f fd) (m_sum : mg "sum" = none)  (c__law_starts : CalS P w K mg base k "_law_starts" F__law_starts) : FnG P w K mg base (k + 1) f fd ["row", "b"] (spV K F__law_need_price) :=
  fs_of (b := b__law_need_price) Fn sc__law_need_price rfl (by
    intro ds R h
    first
      | (obtain ⟨rfl, _⟩ := h; rfl)
      | (obtain ⟨_, rfl, _⟩ := h; rfl)
      | (obtain ⟨_, _, rfl, _⟩ := h; rfl)
      | (obtain ⟨_, _, _, rfl, _⟩ := h; rfl)
      | (obtain ⟨_, _, _, _, rfl, _⟩ := h; rfl)
      | (obtain ⟨_, _, _, _, _, rfl, _⟩ := h; rfl)
      | (obtain ⟨_, _, _, _, _, _, rfl, _⟩ := h; rfl)
      | (obtain ⟨_, _, _, _, _, _, _, rfl, _⟩ := h; rfl)
      | (obtain ⟨_, _, _, _, _, _, _, _, rfl, _⟩ := h; rfl)
      | (obtain ⟨_, _, _, _, _, _, _, _, _, rfl, _⟩ := h; rfl)) (fun cdv A up s H hr hgd => w__law_need_price hr hgd m_sum c__law_starts) Sq.law__law_need_price
theorem ok__law_worst {P : Program} {w : World} {K : Frag} {mg : Str → Option Value} {base : Heap} {f : Addr} {fd : FuncData} {k : Nat} (Fn : Fun K "_law_worst" "_law_worst" t__law_worst f fd) (m_range : mg "range" = none)  (c__law_pick : CalS P w K mg base k "_law_pick" F__law_pick) : FnG P w K mg base (k + 1) f fd ["source", "b"] (spV K F__law_worst) :=
  fs_of (b := b__law_worst) Fn sc__law_worst rfl (by
    intro ds R h
    first
      | (obtain ⟨rfl, _⟩ := h; rfl)
      | (obtain ⟨_, rfl, _⟩ := h; rfl)
      | (obtain ⟨_, _, rfl, _⟩ := h; rfl)
      | (obtain ⟨_, _, _, rfl, _⟩ := h; rfl)
      | (obtain ⟨_, _, _, _, rfl, _⟩ := h; rfl)
      | (obtain ⟨_, _, _, _, _, rfl, _⟩ := h; rfl)
      | (obtain ⟨_, _, _, _, _, _, rfl, _⟩ := h; rfl)
      | (obtain ⟨_, _, _, _, _, _, _, rfl, _⟩ := h; rfl)
      | (obtain ⟨_, _, _, _, _, _, _, _, rfl, _⟩ := h; rfl)
      | (obtain ⟨_, _, _, _, _, _, _, _, _, rfl, _⟩ := h; rfl)) (fun cdv A up s H hr hgd => w__law_worst hr hgd m_range c__law_pick) Sq.law__law_worst
theorem ok__law_prefixes_right {P : Program} {w : World} {K : Frag} {mg : Str → Option Value} {base : Heap} {f : Addr} {fd : FuncData} {k : Nat} (Fn : Fun K "_law_prefixes_right" "_law_prefixes_right" t__law_prefixes_right f fd) (m_len : mg "len" = none) (m_range : mg "range" = none)  (c__law_need_price : CalS P w K mg base k "_law_need_price" F__law_need_price) (c__law_layers_cost : CalS P w K mg base k "_law_layers_cost" F__law_layers_cost) : FnG P w K mg base (k + 1) f fd ["needs", "row", "b", "w"] (spV K F__law_prefixes_right) :=
  fs_of (b := b__law_prefixes_right) Fn sc__law_prefixes_right rfl (by
    intro ds R h
    first
      | (obtain ⟨rfl, _⟩ := h; rfl)
      | (obtain ⟨_, rfl, _⟩ := h; rfl)
      | (obtain ⟨_, _, rfl, _⟩ := h; rfl)
      | (obtain ⟨_, _, _, rfl, _⟩ := h; rfl)
      | (obtain ⟨_, _, _, _, rfl, _⟩ := h; rfl)
      | (obtain ⟨_, _, _, _, _, rfl, _⟩ := h; rfl)
      | (obtain ⟨_, _, _, _, _, _, rfl, _⟩ := h; rfl)
      | (obtain ⟨_, _, _, _, _, _, _, rfl, _⟩ := h; rfl)
      | (obtain ⟨_, _, _, _, _, _, _, _, rfl, _⟩ := h; rfl)
      | (obtain ⟨_, _, _, _, _, _, _, _, _, rfl, _⟩ := h; rfl)) (fun cdv A up s H hr hgd => w__law_prefixes_right hr hgd m_len m_range c__law_need_price c__law_layers_cost) Sq.law__law_prefixes_right
theorem ok_law {P : Program} {w : World} {K : Frag} {mg : Str → Option Value} {base : Heap} {f : Addr} {fd : FuncData} {k : Nat} (Fn : Fun K "law" "law" t_law f fd) (m_range : mg "range" = none) (m_zip : mg "zip" = none)  (c__law_source : CalS P w K mg base k "_law_source" F__law_source) (c__law_some_sight : CalS P w K mg base k "_law_some_sight" F__law_some_sight) (c__law_draw_needs : CalS P w K mg base k "_law_draw_needs" F__law_draw_needs) (c__law_of : CalS P w K mg base k "_law_of" F__law_of) (c__law_pick : CalS P w K mg base k "_law_pick" F__law_pick) (c__law_layers_cost : CalS P w K mg base k "_law_layers_cost" F__law_layers_cost) (c_sight_row : CalS P w K mg base k "sight_row" F_sight_row) (c__law_need_price : CalS P w K mg base k "_law_need_price" F__law_need_price) (c_sight_cost : CalS P w K mg base k "sight_cost" F_sight_cost) (c__law_prefixes_right : CalS P w K mg base k "_law_prefixes_right" F__law_prefixes_right) (c__law_worst : CalS P w K mg base k "_law_worst" F__law_worst) : FnG P w K mg base (k + 1) f fd ["script"] (spV K (lawS 63)) :=
  fs_of (b := b_law) Fn sc_law rfl (by
    intro ds R h
    first
      | (obtain ⟨rfl, _⟩ := h; rfl)
      | (obtain ⟨_, rfl, _⟩ := h; rfl)
      | (obtain ⟨_, _, rfl, _⟩ := h; rfl)
      | (obtain ⟨_, _, _, rfl, _⟩ := h; rfl)
      | (obtain ⟨_, _, _, _, rfl, _⟩ := h; rfl)
      | (obtain ⟨_, _, _, _, _, rfl, _⟩ := h; rfl)
      | (obtain ⟨_, _, _, _, _, _, rfl, _⟩ := h; rfl)
      | (obtain ⟨_, _, _, _, _, _, _, rfl, _⟩ := h; rfl)
      | (obtain ⟨_, _, _, _, _, _, _, _, rfl, _⟩ := h; rfl)
      | (obtain ⟨_, _, _, _, _, _, _, _, _, rfl, _⟩ := h; rfl)) (fun cdv A up s H hr hgd => w_law hr hgd m_range m_zip c__law_source c__law_some_sight c__law_draw_needs c__law_of c__law_pick c__law_layers_cost c_sight_row c__law_need_price c_sight_cost c__law_prefixes_right c__law_worst) law_law
theorem all_mk {l : PySem.W.OpenLaw} {w : World} {K : Frag} {h : Heap} {mg : Str → Option Value} {fa f1 f2 f3 f4 f5 f6 f7 f8 f9 f10 f11 f12 f13 f14 f15 f16 f17 f18 f19 f20 K_SightRunner : Addr} (X : K.In h) (G : h.Ns mainGlobals mg) (hfa : mg "law" = some (.ref fa))
    (aK_SightRunner : PySem.W.nsIn K mainGlobals "SightRunner" = some (some (.ref K_SightRunner))) (pK_SightRunner : PySem.W.plainGet K K_SightRunner Str.empty = true) (hK_SightRunner : PySem.W.hasDictIn K K_SightRunner = true) (oK_SightRunner : PySem.W.plainOver K K_SightRunner = true) (sK_SightRunner : PySem.W.findIn K (.ref K_SightRunner) "__setattr__" = some (some (.builtin "object.__setattr__")))
    (mK_SightRunner : PySem.W.makesIn K K_SightRunner = true) (kK_SightRunner : PySem.W.keepIn K (.ref K_SightRunner) = true)
    (nK_SightRunner_on : PySem.W.findIn K (.ref K_SightRunner) "on" = some none)
    (nK_SightRunner_past : PySem.W.findIn K (.ref K_SightRunner) "past" = some none)
    (nK_SightRunner_many : PySem.W.findIn K (.ref K_SightRunner) "many" = some none)
    (nK_SightRunner_w : PySem.W.findIn K (.ref K_SightRunner) "w" = some none)
    {od1 an1 : Option Addr} {sl1 : Array (Option Value)} {oc1 kV1 dc1 pm1 cd1 ct1 : Value} (a1 : PySem.W.nsIn K mainGlobals "closed_by" = some (some (.ref f1))) (l1 : K.lookup f1 = some ⟨oc1, od1, .func (PySem.W.fnOf "closed_by" "closed_by" (defArgs t_closed_by) (defBody t_closed_by) (defScope t_closed_by) .none kV1 dc1 pm1 an1 cd1 ct1), sl1⟩) (c1 : PySem.W.codeIn K cd1 "closed_by" = true) (k1 : PySem.W.keepIn K (.ref f1) = true)
    {od2 an2 : Option Addr} {sl2 : Array (Option Value)} {oc2 kV2 dc2 pm2 cd2 ct2 : Value} (a2 : PySem.W.nsIn K mainGlobals "valleys" = some (some (.ref f2))) (l2 : K.lookup f2 = some ⟨oc2, od2, .func (PySem.W.fnOf "valleys" "valleys" (defArgs t_valleys) (defBody t_valleys) (defScope t_valleys) .none kV2 dc2 pm2 an2 cd2 ct2), sl2⟩) (c2 : PySem.W.codeIn K cd2 "valleys" = true) (k2 : PySem.W.keepIn K (.ref f2) = true)
    {od3 an3 : Option Addr} {sl3 : Array (Option Value)} {oc3 kV3 dc3 pm3 cd3 ct3 : Value} (a3 : PySem.W.findIn K (.ref K_SightRunner) "look" = some (some (.ref f3))) (l3 : K.lookup f3 = some ⟨oc3, od3, .func (PySem.W.fnOf "look" "SightRunner.look" (defArgs t_SightRunner_look) (defBody t_SightRunner_look) (defScope t_SightRunner_look) .none kV3 dc3 pm3 an3 cd3 ct3), sl3⟩) (c3 : PySem.W.codeIn K cd3 "SightRunner.look" = true) (k3 : PySem.W.keepIn K (.ref f3) = true) (i3 : PySem.W.isFn K (.ref f3) = true)
    {od4 an4 : Option Addr} {sl4 : Array (Option Value)} {oc4 kV4 dc4 pm4 cd4 ct4 : Value} (a4 : PySem.W.nsIn K mainGlobals "run" = some (some (.ref f4))) (l4 : K.lookup f4 = some ⟨oc4, od4, .func (PySem.W.fnOf "run" "run" (defArgs t_run) (defBody t_run) (defScope t_run) .none kV4 dc4 pm4 an4 cd4 ct4), sl4⟩) (c4 : PySem.W.codeIn K cd4 "run" = true) (k4 : PySem.W.keepIn K (.ref f4) = true)
    {od5 an5 : Option Addr} {sl5 : Array (Option Value)} {oc5 kV5 dc5 pm5 cd5 ct5 : Value} (a5 : PySem.W.findIn K (.ref K_SightRunner) "__init__" = some (some (.ref f5))) (l5 : K.lookup f5 = some ⟨oc5, od5, .func (PySem.W.fnOf "__init__" "SightRunner.__init__" (defArgs t_SightRunner_init) (defBody t_SightRunner_init) (defScope t_SightRunner_init) .none kV5 dc5 pm5 an5 cd5 ct5), sl5⟩) (c5 : PySem.W.codeIn K cd5 "SightRunner.__init__" = true) (k5 : PySem.W.keepIn K (.ref f5) = true) (i5 : PySem.W.isFn K (.ref f5) = true)
    {od6 an6 : Option Addr} {sl6 : Array (Option Value)} {oc6 kV6 dc6 pm6 cd6 ct6 : Value} (a6 : PySem.W.nsIn K mainGlobals "sight_row" = some (some (.ref f6))) (l6 : K.lookup f6 = some ⟨oc6, od6, .func (PySem.W.fnOf "sight_row" "sight_row" (defArgs t_sight_row) (defBody t_sight_row) (defScope t_sight_row) .none kV6 dc6 pm6 an6 cd6 ct6), sl6⟩) (c6 : PySem.W.codeIn K cd6 "sight_row" = true) (k6 : PySem.W.keepIn K (.ref f6) = true)
    {od7 an7 : Option Addr} {sl7 : Array (Option Value)} {oc7 kV7 dc7 pm7 cd7 ct7 : Value} (a7 : PySem.W.nsIn K mainGlobals "tails" = some (some (.ref f7))) (l7 : K.lookup f7 = some ⟨oc7, od7, .func (PySem.W.fnOf "tails" "tails" (defArgs t_tails) (defBody t_tails) (defScope t_tails) .none kV7 dc7 pm7 an7 cd7 ct7), sl7⟩) (c7 : PySem.W.codeIn K cd7 "tails" = true) (k7 : PySem.W.keepIn K (.ref f7) = true)
    {od8 an8 : Option Addr} {sl8 : Array (Option Value)} {oc8 kV8 dc8 pm8 cd8 ct8 : Value} (a8 : PySem.W.nsIn K mainGlobals "sight_cost" = some (some (.ref f8))) (l8 : K.lookup f8 = some ⟨oc8, od8, .func (PySem.W.fnOf "sight_cost" "sight_cost" (defArgs t_sight_cost) (defBody t_sight_cost) (defScope t_sight_cost) .none kV8 dc8 pm8 an8 cd8 ct8), sl8⟩) (c8 : PySem.W.codeIn K cd8 "sight_cost" = true) (k8 : PySem.W.keepIn K (.ref f8) = true)
    {od9 an9 : Option Addr} {sl9 : Array (Option Value)} {oc9 kV9 dc9 pm9 cd9 ct9 : Value} (a9 : PySem.W.nsIn K mainGlobals "_law_source" = some (some (.ref f9))) (l9 : K.lookup f9 = some ⟨oc9, od9, .func (PySem.W.fnOf "_law_source" "_law_source" (defArgs t__law_source) (defBody t__law_source) (defScope t__law_source) .none kV9 dc9 pm9 an9 cd9 ct9), sl9⟩) (c9 : PySem.W.codeIn K cd9 "_law_source" = true) (k9 : PySem.W.keepIn K (.ref f9) = true)
    {od10 an10 : Option Addr} {sl10 : Array (Option Value)} {oc10 kV10 dc10 pm10 cd10 ct10 : Value} (a10 : PySem.W.nsIn K mainGlobals "_law_pick" = some (some (.ref f10))) (l10 : K.lookup f10 = some ⟨oc10, od10, .func (PySem.W.fnOf "_law_pick" "_law_pick" (defArgs t__law_pick) (defBody t__law_pick) (defScope t__law_pick) .none kV10 dc10 pm10 an10 cd10 ct10), sl10⟩) (c10 : PySem.W.codeIn K cd10 "_law_pick" = true) (k10 : PySem.W.keepIn K (.ref f10) = true)
    {od11 an11 : Option Addr} {sl11 : Array (Option Value)} {oc11 kV11 dc11 pm11 cd11 ct11 : Value} (a11 : PySem.W.nsIn K mainGlobals "_law_of" = some (some (.ref f11))) (l11 : K.lookup f11 = some ⟨oc11, od11, .func (PySem.W.fnOf "_law_of" "_law_of" (defArgs t__law_of) (defBody t__law_of) (defScope t__law_of) .none kV11 dc11 pm11 an11 cd11 ct11), sl11⟩) (c11 : PySem.W.codeIn K cd11 "_law_of" = true) (k11 : PySem.W.keepIn K (.ref f11) = true)
    {od12 an12 : Option Addr} {sl12 : Array (Option Value)} {oc12 kV12 dc12 pm12 cd12 ct12 : Value} (a12 : PySem.W.nsIn K mainGlobals "_law_starts" = some (some (.ref f12))) (l12 : K.lookup f12 = some ⟨oc12, od12, .func (PySem.W.fnOf "_law_starts" "_law_starts" (defArgs t__law_starts) (defBody t__law_starts) (defScope t__law_starts) .none kV12 dc12 pm12 an12 cd12 ct12), sl12⟩) (c12 : PySem.W.codeIn K cd12 "_law_starts" = true) (k12 : PySem.W.keepIn K (.ref f12) = true)
    {od13 an13 : Option Addr} {sl13 : Array (Option Value)} {oc13 kV13 dc13 pm13 cd13 ct13 : Value} (a13 : PySem.W.nsIn K mainGlobals "_law_draw_needs" = some (some (.ref f13))) (l13 : K.lookup f13 = some ⟨oc13, od13, .func (PySem.W.fnOf "_law_draw_needs" "_law_draw_needs" (defArgs t__law_draw_needs) (defBody t__law_draw_needs) (defScope t__law_draw_needs) .none kV13 dc13 pm13 an13 cd13 ct13), sl13⟩) (c13 : PySem.W.codeIn K cd13 "_law_draw_needs" = true) (k13 : PySem.W.keepIn K (.ref f13) = true)
    {od14 an14 : Option Addr} {sl14 : Array (Option Value)} {oc14 kV14 dc14 pm14 cd14 ct14 : Value} (a14 : PySem.W.nsIn K mainGlobals "_law_gaps" = some (some (.ref f14))) (l14 : K.lookup f14 = some ⟨oc14, od14, .func (PySem.W.fnOf "_law_gaps" "_law_gaps" (defArgs t__law_gaps) (defBody t__law_gaps) (defScope t__law_gaps) .none kV14 dc14 pm14 an14 cd14 ct14), sl14⟩) (c14 : PySem.W.codeIn K cd14 "_law_gaps" = true) (k14 : PySem.W.keepIn K (.ref f14) = true)
    {od15 an15 : Option Addr} {sl15 : Array (Option Value)} {oc15 kV15 dc15 pm15 cd15 ct15 : Value} (a15 : PySem.W.nsIn K mainGlobals "_law_layers_cost" = some (some (.ref f15))) (l15 : K.lookup f15 = some ⟨oc15, od15, .func (PySem.W.fnOf "_law_layers_cost" "_law_layers_cost" (defArgs t__law_layers_cost) (defBody t__law_layers_cost) (defScope t__law_layers_cost) .none kV15 dc15 pm15 an15 cd15 ct15), sl15⟩) (c15 : PySem.W.codeIn K cd15 "_law_layers_cost" = true) (k15 : PySem.W.keepIn K (.ref f15) = true)
    {od16 an16 : Option Addr} {sl16 : Array (Option Value)} {oc16 kV16 dc16 pm16 cd16 ct16 : Value} (a16 : PySem.W.nsIn K mainGlobals "_law_some_sight" = some (some (.ref f16))) (l16 : K.lookup f16 = some ⟨oc16, od16, .func (PySem.W.fnOf "_law_some_sight" "_law_some_sight" (defArgs t__law_some_sight) (defBody t__law_some_sight) (defScope t__law_some_sight) .none kV16 dc16 pm16 an16 cd16 ct16), sl16⟩) (c16 : PySem.W.codeIn K cd16 "_law_some_sight" = true) (k16 : PySem.W.keepIn K (.ref f16) = true)
    {od17 an17 : Option Addr} {sl17 : Array (Option Value)} {oc17 kV17 dc17 pm17 cd17 ct17 : Value} (a17 : PySem.W.nsIn K mainGlobals "_law_need_price" = some (some (.ref f17))) (l17 : K.lookup f17 = some ⟨oc17, od17, .func (PySem.W.fnOf "_law_need_price" "_law_need_price" (defArgs t__law_need_price) (defBody t__law_need_price) (defScope t__law_need_price) .none kV17 dc17 pm17 an17 cd17 ct17), sl17⟩) (c17 : PySem.W.codeIn K cd17 "_law_need_price" = true) (k17 : PySem.W.keepIn K (.ref f17) = true)
    {od18 an18 : Option Addr} {sl18 : Array (Option Value)} {oc18 kV18 dc18 pm18 cd18 ct18 : Value} (a18 : PySem.W.nsIn K mainGlobals "_law_worst" = some (some (.ref f18))) (l18 : K.lookup f18 = some ⟨oc18, od18, .func (PySem.W.fnOf "_law_worst" "_law_worst" (defArgs t__law_worst) (defBody t__law_worst) (defScope t__law_worst) .none kV18 dc18 pm18 an18 cd18 ct18), sl18⟩) (c18 : PySem.W.codeIn K cd18 "_law_worst" = true) (k18 : PySem.W.keepIn K (.ref f18) = true)
    {od19 an19 : Option Addr} {sl19 : Array (Option Value)} {oc19 kV19 dc19 pm19 cd19 ct19 : Value} (a19 : PySem.W.nsIn K mainGlobals "_law_prefixes_right" = some (some (.ref f19))) (l19 : K.lookup f19 = some ⟨oc19, od19, .func (PySem.W.fnOf "_law_prefixes_right" "_law_prefixes_right" (defArgs t__law_prefixes_right) (defBody t__law_prefixes_right) (defScope t__law_prefixes_right) .none kV19 dc19 pm19 an19 cd19 ct19), sl19⟩) (c19 : PySem.W.codeIn K cd19 "_law_prefixes_right" = true) (k19 : PySem.W.keepIn K (.ref f19) = true)
    {od20 an20 : Option Addr} {sl20 : Array (Option Value)} {oc20 kV20 dc20 pm20 cd20 ct20 : Value} (a20 : PySem.W.nsIn K mainGlobals "law" = some (some (.ref f20))) (l20 : K.lookup f20 = some ⟨oc20, od20, .func (PySem.W.fnOf "law" "law" (defArgs t_law) (defBody t_law) (defScope t_law) .none kV20 dc20 pm20 an20 cd20 ct20), sl20⟩) (c20 : PySem.W.codeIn K cd20 "law" = true) (k20 : PySem.W.keepIn K (.ref f20) = true)
    (z_abs : PySem.W.nsIn K mainGlobals "abs" = some none)
    (z_int : PySem.W.nsIn K mainGlobals "int" = some none)
    (z_len : PySem.W.nsIn K mainGlobals "len" = some none)
    (z_list : PySem.W.nsIn K mainGlobals "list" = some none)
    (z_max : PySem.W.nsIn K mainGlobals "max" = some none)
    (z_min : PySem.W.nsIn K mainGlobals "min" = some none)
    (z_range : PySem.W.nsIn K mainGlobals "range" = some none)
    (z_sorted : PySem.W.nsIn K mainGlobals "sorted" = some none)
    (z_sum : PySem.W.nsIn K mainGlobals "sum" = some none)
    (z_tuple : PySem.W.nsIn K mainGlobals "tuple" = some none)
    (z_zip : PySem.W.nsIn K mainGlobals "zip" = some none) :
    ∃ fd : FuncData, (∀ (s : Shared) (v : Value), BindsTo s fd ⟨[v], []⟩ [("script", v)]) ∧ ∀ base : Heap, K.In base → base.Ns mainGlobals mg → FnG l.prog w K mg base 4 fa fd ["script"] (spV K (lawS 63)) := by
  have e := hfa.symm.trans (PySem.W.mg_of X G a20)
  cases e
  have F1 := fun_mk (st := t_closed_by) l1 c1 k1
  have b1 := F1.binds (ps := ["needs", "kept", "tick"]) fun _ _ _ _ _ _ us hl => match us, hl with
    | [_, _, _], _ => rfl
  have F2 := fun_mk (st := t_valleys) l2 c2 k2
  have b2 := F2.binds (ps := ["needs"]) fun _ _ _ _ _ _ us hl => match us, hl with
    | [_], _ => rfl
  have F3 := fun_mk (st := t_SightRunner_look) l3 c3 k3
  have b3 := F3.binds (ps := ["self", "seen"]) fun _ _ _ _ _ _ us hl => match us, hl with
    | [_, _], _ => rfl
  have F4 := fun_mk (st := t_run) l4 c4 k4
  have b4 := F4.binds (ps := ["runner", "row", "w"]) fun _ _ _ _ _ _ us hl => match us, hl with
    | [_, _, _], _ => rfl
  have F5 := fun_mk (st := t_SightRunner_init) l5 c5 k5
  have b5 := F5.binds (ps := ["self", "b", "w"]) fun _ _ _ _ _ _ us hl => match us, hl with
    | [_, _, _], _ => rfl
  have F6 := fun_mk (st := t_sight_row) l6 c6 k6
  have b6 := F6.binds (ps := ["needs", "b", "w"]) fun _ _ _ _ _ _ us hl => match us, hl with
    | [_, _, _], _ => rfl
  have F7 := fun_mk (st := t_tails) l7 c7 k7
  have b7 := F7.binds (ps := ["needs"]) fun _ _ _ _ _ _ us hl => match us, hl with
    | [_], _ => rfl
  have F8 := fun_mk (st := t_sight_cost) l8 c8 k8
  have b8 := F8.binds (ps := ["needs", "b", "w"]) fun _ _ _ _ _ _ us hl => match us, hl with
    | [_, _, _], _ => rfl
  have F9 := fun_mk (st := t__law_source) l9 c9 k9
  have b9 := F9.binds (ps := ["script"]) fun _ _ _ _ _ _ us hl => match us, hl with
    | [_], _ => rfl
  have F10 := fun_mk (st := t__law_pick) l10 c10 k10
  have b10 := F10.binds (ps := ["source", "many"]) fun _ _ _ _ _ _ us hl => match us, hl with
    | [_, _], _ => rfl
  have F11 := fun_mk (st := t__law_of) l11 c11 k11
  have b11 := F11.binds (ps := ["source", "some"]) fun _ _ _ _ _ _ us hl => match us, hl with
    | [_, _], _ => rfl
  have F12 := fun_mk (st := t__law_starts) l12 c12 k12
  have b12 := F12.binds (ps := ["row"]) fun _ _ _ _ _ _ us hl => match us, hl with
    | [_], _ => rfl
  have F13 := fun_mk (st := t__law_draw_needs) l13 c13 k13
  have b13 := F13.binds (ps := ["source", "ticks", "most"]) fun _ _ _ _ _ _ us hl => match us, hl with
    | [_, _, _], _ => rfl
  have F14 := fun_mk (st := t__law_gaps) l14 c14 k14
  have b14 := F14.binds (ps := ["needs", "k"]) fun _ _ _ _ _ _ us hl => match us, hl with
    | [_, _], _ => rfl
  have F15 := fun_mk (st := t__law_layers_cost) l15 c15 k15
  have b15 := F15.binds (ps := ["needs", "b"]) fun _ _ _ _ _ _ us hl => match us, hl with
    | [_, _], _ => rfl
  have F16 := fun_mk (st := t__law_some_sight) l16 c16 k16
  have b16 := F16.binds (ps := ["source", "most"]) fun _ _ _ _ _ _ us hl => match us, hl with
    | [_, _], _ => rfl
  have F17 := fun_mk (st := t__law_need_price) l17 c17 k17
  have b17 := F17.binds (ps := ["row", "b"]) fun _ _ _ _ _ _ us hl => match us, hl with
    | [_, _], _ => rfl
  have F18 := fun_mk (st := t__law_worst) l18 c18 k18
  have b18 := F18.binds (ps := ["source", "b"]) fun _ _ _ _ _ _ us hl => match us, hl with
    | [_, _], _ => rfl
  have F19 := fun_mk (st := t__law_prefixes_right) l19 c19 k19
  have b19 := F19.binds (ps := ["needs", "row", "b", "w"]) fun _ _ _ _ _ _ us hl => match us, hl with
    | [_, _, _, _], _ => rfl
  have F20 := fun_mk (st := t_law) l20 c20 k20
  have m_abs := PySem.W.mg_none_of X G z_abs
  have m_int := PySem.W.mg_none_of X G z_int
  have m_len := PySem.W.mg_none_of X G z_len
  have m_list := PySem.W.mg_none_of X G z_list
  have m_max := PySem.W.mg_none_of X G z_max
  have m_min := PySem.W.mg_none_of X G z_min
  have m_range := PySem.W.mg_none_of X G z_range
  have m_sorted := PySem.W.mg_none_of X G z_sorted
  have m_sum := PySem.W.mg_none_of X G z_sum
  have m_tuple := PySem.W.mg_none_of X G z_tuple
  have m_zip := PySem.W.mg_none_of X G z_zip
  have f_SightRunner_on : FldC K "SightRunner" "on" := fldC_mk aK_SightRunner nK_SightRunner_on
  have f_SightRunner_past : FldC K "SightRunner" "past" := fldC_mk aK_SightRunner nK_SightRunner_past
  have f_SightRunner_many : FldC K "SightRunner" "many" := fldC_mk aK_SightRunner nK_SightRunner_many
  have f_SightRunner_w : FldC K "SightRunner" "w" := fldC_mk aK_SightRunner nK_SightRunner_w
  refine ⟨PySem.W.fnOf "law" "law" (defArgs t_law) (defBody t_law) (defScope t_law) .none kV20 dc20 pm20 an20 cd20 ct20, fun s v => .of_eq rfl, fun base _ _ => ?_⟩
  have o1 := ok_closed_by (P := l.prog) (w := w) (mg := mg) (base := base) (k := 0) F1 m_max m_min
  have c_closed_by : CalS l.prog w K mg base 1 "closed_by" F_closed_by := ⟨⟨_, _, _, o1, PySem.W.mg_of X G a1, k1, b1⟩⟩
  have o2 := ok_valleys (P := l.prog) (w := w) (mg := mg) (base := base) (k := 1) F2 m_len m_range m_sorted (c_closed_by.mono (by decide))
  have c_valleys : CalS l.prog w K mg base 2 "valleys" F_valleys := ⟨⟨_, _, _, o2, PySem.W.mg_of X G a2, k2, b2⟩⟩
  have o3 := ok_SightRunner_look (P := l.prog) (w := w) (mg := mg) (base := base) (k := 0) F3 m_len m_max m_min f_SightRunner_on f_SightRunner_past
  have c_SightRunner_look : CalM l.prog w K mg base 1 "SightRunner" "look" F_SightRunner_look := ⟨⟨K_SightRunner, f3, _, _, aK_SightRunner, ⟨a3, i3, k3⟩, o3, b3⟩⟩
  have o4 := ok_run (P := l.prog) (w := w) (mg := mg) (base := base) (k := 1) F4 m_len m_range m_tuple (c_SightRunner_look.mono (by decide))
  have c_run : CalS l.prog w K mg base 2 "run" F_run_sight := ⟨⟨_, _, _, o4, PySem.W.mg_of X G a4, k4, b4⟩⟩
  have o5 := ok_SightRunner_init (P := l.prog) (w := w) (mg := mg) (base := base) (k := 0) F5 f_SightRunner_many f_SightRunner_w f_SightRunner_past f_SightRunner_on
  have c_SightRunner_init : CalC l.prog w K mg base 1 "SightRunner" F_SightRunner_init := ⟨⟨K_SightRunner, f5, _, _, aK_SightRunner, PySem.W.mg_of X G aK_SightRunner, ⟨pK_SightRunner, hK_SightRunner, oK_SightRunner, sK_SightRunner⟩, ⟨mK_SightRunner, a5, i5, kK_SightRunner⟩, o5, b5⟩⟩
  have o6 := ok_sight_row (P := l.prog) (w := w) (mg := mg) (base := base) (k := 2) (kc := 1) F6 (by decide) (c_run.mono (by decide)) (c_SightRunner_init.mono (by decide))
  have c_sight_row : CalS l.prog w K mg base 3 "sight_row" F_sight_row := ⟨⟨_, _, _, o6, PySem.W.mg_of X G a6, k6, b6⟩⟩
  have o7 := ok_tails (P := l.prog) (w := w) (mg := mg) (base := base) (k := 0) F7 m_len m_max m_range
  have c_tails : CalS l.prog w K mg base 1 "tails" F_tails := ⟨⟨_, _, _, o7, PySem.W.mg_of X G a7, k7, b7⟩⟩
  have o8 := ok_sight_cost (P := l.prog) (w := w) (mg := mg) (base := base) (k := 2) F8 m_max m_min m_sum (c_valleys.mono (by decide)) (c_tails.mono (by decide))
  have c_sight_cost : CalS l.prog w K mg base 3 "sight_cost" F_sight_cost := ⟨⟨_, _, _, o8, PySem.W.mg_of X G a8, k8, b8⟩⟩
  have o9 := ok__law_source (P := l.prog) (w := w) (mg := mg) (base := base) (k := 0) F9 m_abs m_int
  have c__law_source : CalS l.prog w K mg base 1 "_law_source" F__law_source := ⟨⟨_, _, _, o9, PySem.W.mg_of X G a9, k9, b9⟩⟩
  have o10 := ok__law_pick (P := l.prog) (w := w) (mg := mg) (base := base) (k := 0) F10 m_int m_len m_max
  have c__law_pick : CalS l.prog w K mg base 1 "_law_pick" F__law_pick := ⟨⟨_, _, _, o10, PySem.W.mg_of X G a10, k10, b10⟩⟩
  have o11 := ok__law_of (P := l.prog) (w := w) (mg := mg) (base := base) (k := 1) F11 m_len (c__law_pick.mono (by decide))
  have c__law_of : CalS l.prog w K mg base 2 "_law_of" F__law_of := ⟨⟨_, _, _, o11, PySem.W.mg_of X G a11, k11, b11⟩⟩
  have o12 := ok__law_starts (P := l.prog) (w := w) (mg := mg) (base := base) (k := 0) F12 m_len m_max m_range m_sum
  have c__law_starts : CalS l.prog w K mg base 1 "_law_starts" F__law_starts := ⟨⟨_, _, _, o12, PySem.W.mg_of X G a12, k12, b12⟩⟩
  have o13 := ok__law_draw_needs (P := l.prog) (w := w) (mg := mg) (base := base) (k := 2) F13 m_len m_max m_min m_tuple (c__law_pick.mono (by decide)) (c__law_of.mono (by decide))
  have c__law_draw_needs : CalS l.prog w K mg base 3 "_law_draw_needs" F__law_draw_needs := ⟨⟨_, _, _, o13, PySem.W.mg_of X G a13, k13, b13⟩⟩
  have o14 := ok__law_gaps (P := l.prog) (w := w) (mg := mg) (base := base) (k := 0) F14 m_len m_range m_zip
  have c__law_gaps : CalS l.prog w K mg base 1 "_law_gaps" F__law_gaps := ⟨⟨_, _, _, o14, PySem.W.mg_of X G a14, k14, b14⟩⟩
  have o15 := ok__law_layers_cost (P := l.prog) (w := w) (mg := mg) (base := base) (k := 1) F15 m_list m_max m_min m_range m_sum (c__law_gaps.mono (by decide))
  have c__law_layers_cost : CalS l.prog w K mg base 2 "_law_layers_cost" F__law_layers_cost := ⟨⟨_, _, _, o15, PySem.W.mg_of X G a15, k15, b15⟩⟩
  have o16 := ok__law_some_sight (P := l.prog) (w := w) (mg := mg) (base := base) (k := 2) F16 (c__law_pick.mono (by decide)) (c__law_of.mono (by decide))
  have c__law_some_sight : CalS l.prog w K mg base 3 "_law_some_sight" F__law_some_sight := ⟨⟨_, _, _, o16, PySem.W.mg_of X G a16, k16, b16⟩⟩
  have o17 := ok__law_need_price (P := l.prog) (w := w) (mg := mg) (base := base) (k := 1) F17 m_sum (c__law_starts.mono (by decide))
  have c__law_need_price : CalS l.prog w K mg base 2 "_law_need_price" F__law_need_price := ⟨⟨_, _, _, o17, PySem.W.mg_of X G a17, k17, b17⟩⟩
  have o18 := ok__law_worst (P := l.prog) (w := w) (mg := mg) (base := base) (k := 1) F18 m_range (c__law_pick.mono (by decide))
  have c__law_worst : CalS l.prog w K mg base 2 "_law_worst" F__law_worst := ⟨⟨_, _, _, o18, PySem.W.mg_of X G a18, k18, b18⟩⟩
  have o19 := ok__law_prefixes_right (P := l.prog) (w := w) (mg := mg) (base := base) (k := 2) F19 m_len m_range (c__law_need_price.mono (by decide)) (c__law_layers_cost.mono (by decide))
  have c__law_prefixes_right : CalS l.prog w K mg base 3 "_law_prefixes_right" F__law_prefixes_right := ⟨⟨_, _, _, o19, PySem.W.mg_of X G a19, k19, b19⟩⟩
  have o20 := ok_law (P := l.prog) (w := w) (mg := mg) (base := base) (k := 3) F20 m_range m_zip (c__law_source.mono (by decide)) (c__law_some_sight.mono (by decide)) (c__law_draw_needs.mono (by decide)) (c__law_of.mono (by decide)) (c__law_pick.mono (by decide)) (c__law_layers_cost.mono (by decide)) (c_sight_row.mono (by decide)) (c__law_need_price.mono (by decide)) (c_sight_cost.mono (by decide)) (c__law_prefixes_right.mono (by decide)) (c__law_worst.mono (by decide))
  exact o20
end K43
open PySem PySem.W PyProof.Rows
set_option maxRecDepth 100000 in
set_option maxHeartbeats 0 in
theorem PySem.Challenge.cw_wakedenough_k43_whole_first_sentence_holds : PySem.Challenge.rw_wakedenough_k43_whole_first_sentence.Holds := by
  w_on; o_law; k_head; (case hw => w_witness2)
  k_fill
  refine Sq.walkG (l := PySem.Challenge.rw_wakedenough_k43_whole_first_sentence) (n := 63) (k := 4) (x := "script") rfl (by decide) rfl ⟨rfl, by decide, by decide⟩ (fun w h Y => PySem.W.kIn_of Y) ?F
  case F =>
    intro w mg fa h KX G hmg
    refine' K43.all_mk KX G hmg ?aK_SightRunner ?pK_SightRunner ?hK_SightRunner ?oK_SightRunner ?sK_SightRunner ?mK_SightRunner ?kK_SightRunner ?nK_SightRunner_on ?nK_SightRunner_past ?nK_SightRunner_many ?nK_SightRunner_w ?a1 ?l1 ?c1 ?k1 ?a2 ?l2 ?c2 ?k2 ?a3 ?l3 ?c3 ?k3 ?i3 ?a4 ?l4 ?c4 ?k4 ?a5 ?l5 ?c5 ?k5 ?i5 ?a6 ?l6 ?c6 ?k6 ?a7 ?l7 ?c7 ?k7 ?a8 ?l8 ?c8 ?k8 ?a9 ?l9 ?c9 ?k9 ?a10 ?l10 ?c10 ?k10 ?a11 ?l11 ?c11 ?k11 ?a12 ?l12 ?c12 ?k12 ?a13 ?l13 ?c13 ?k13 ?a14 ?l14 ?c14 ?k14 ?a15 ?l15 ?c15 ?k15 ?a16 ?l16 ?c16 ?k16 ?a17 ?l17 ?c17 ?k17 ?a18 ?l18 ?c18 ?k18 ?a19 ?l19 ?c19 ?k19 ?a20 ?l20 ?c20 ?k20 ?z_abs ?z_int ?z_len ?z_list ?z_max ?z_min ?z_range ?z_sorted ?z_sum ?z_tuple ?z_zip
    (case aK_SightRunner => k_is)
    (case pK_SightRunner => k_is)
    (case hK_SightRunner => k_is)
    (case oK_SightRunner => k_is)
    (case sK_SightRunner => k_is)
    (case mK_SightRunner => k_is)
    (case kK_SightRunner => k_is)
    (case nK_SightRunner_on => k_is)
    (case nK_SightRunner_past => k_is)
    (case nK_SightRunner_many => k_is)
    (case nK_SightRunner_w => k_is)
    (case a1 => k_is)
    (case l1 => k_is)
    (case c1 => k_is)
    (case k1 => k_is)
    (case a2 => k_is)
    (case l2 => k_is)
    (case c2 => k_is)
    (case k2 => k_is)
    (case a3 => k_is)
    (case l3 => k_is)
    (case c3 => k_is)
    (case k3 => k_is)
    (case i3 => k_is)
    (case a4 => k_is)
    (case l4 => k_is)
    (case c4 => k_is)
    (case k4 => k_is)
    (case a5 => k_is)
    (case l5 => k_is)
    (case c5 => k_is)
    (case k5 => k_is)
    (case i5 => k_is)
    (case a6 => k_is)
    (case l6 => k_is)
    (case c6 => k_is)
    (case k6 => k_is)
    (case a7 => k_is)
    (case l7 => k_is)
    (case c7 => k_is)
    (case k7 => k_is)
    (case a8 => k_is)
    (case l8 => k_is)
    (case c8 => k_is)
    (case k8 => k_is)
    (case a9 => k_is)
    (case l9 => k_is)
    (case c9 => k_is)
    (case k9 => k_is)
    (case a10 => k_is)
    (case l10 => k_is)
    (case c10 => k_is)
    (case k10 => k_is)
    (case a11 => k_is)
    (case l11 => k_is)
    (case c11 => k_is)
    (case k11 => k_is)
    (case a12 => k_is)
    (case l12 => k_is)
    (case c12 => k_is)
    (case k12 => k_is)
    (case a13 => k_is)
    (case l13 => k_is)
    (case c13 => k_is)
    (case k13 => k_is)
    (case a14 => k_is)
    (case l14 => k_is)
    (case c14 => k_is)
    (case k14 => k_is)
    (case a15 => k_is)
    (case l15 => k_is)
    (case c15 => k_is)
    (case k15 => k_is)
    (case a16 => k_is)
    (case l16 => k_is)
    (case c16 => k_is)
    (case k16 => k_is)
    (case a17 => k_is)
    (case l17 => k_is)
    (case c17 => k_is)
    (case k17 => k_is)
    (case a18 => k_is)
    (case l18 => k_is)
    (case c18 => k_is)
    (case k18 => k_is)
    (case a19 => k_is)
    (case l19 => k_is)
    (case c19 => k_is)
    (case k19 => k_is)
    (case a20 => k_is)
    (case l20 => k_is)
    (case c20 => k_is)
    (case k20 => k_is)
    (case z_abs => k_is)
    (case z_int => k_is)
    (case z_len => k_is)
    (case z_list => k_is)
    (case z_max => k_is)
    (case z_min => k_is)
    (case z_range => k_is)
    (case z_sorted => k_is)
    (case z_sum => k_is)
    (case z_tuple => k_is)
    (case z_zip => k_is)
