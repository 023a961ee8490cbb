import PyProof.Rows.All
import Wide.All
import OpenK.AllK
import Wide.FinOn
import PySem.Challenge.RW_pq1024_01
open PySem PySem.W PyProof.Rows
set_option Elab.async false
set_option maxRecDepth 100000
set_option maxHeartbeats 0
set_option linter.unusedVariables false
set_option linter.unusedSimpArgs false
open_top hd for PySem.Challenge.rw_pq1024_01
open PySem.Calls
section
namespace Mine
abbrev Led := List (Addr × Obj)

/-! ## trees -/
inductive T where
  | cint (i : Fin 8)
  | cun
  | loc (n : Int)
  | glob (n : Int)
  | setl (n : Int) (v : T)
  | lam (l : Int) (ps : List Int) (b : T)
  | call (f : T) (xs : List T)
  | seq (xs : List T)
  | fix (ns : List Int) (ls : List T) (b : T)

def T.kind : T → Int
  | .cint _ => 0 | .cun => 0 | .loc _ => 1 | .glob _ => 2 | .setl _ _ => 3 | .lam _ _ _ => 7 | .call _ _ => 8 | .seq _ => 9 | .fix _ _ _ => 11
def T.kids : T → List T
  | .cint _ => [] | .cun => [] | .loc _ => [] | .glob _ => [] | .setl _ v => [v] | .lam _ _ b => [b] | .call f xs => f :: xs | .seq xs => xs | .fix _ ls b => ls ++ [b]
def dints (ns : List Int) : List Dat := ns.map .int
def T.own : T → List Dat
  | .cint i => [.str (Str.ofString (toString (i.val : Int)))] | .cun => [.str (Str.ofString "late")] | .loc n => [.int n] | .glob n => [.int n] | .setl n _ => [.int n]
  | .lam l ps _ => [.int l, .tuple (dints ps), .int (-1)] | .call _ _ => [] | .seq _ => [] | .fix ns _ _ => [.tuple (dints ns)]
def T.nums : T → Nat
  | .lam _ ps _ => ps.length
  | .fix ns _ _ => ns.length
  | _ => 0
mutual
def T.size : T → Nat
  | .cint _ => 1 | .cun => 1 | .loc _ => 1 | .glob _ => 1
  | .setl _ v => v.size + 1 | .lam _ ps b => b.size + ps.length + 1 | .call f xs => f.size + sizes xs + 1 | .seq xs => sizes xs + 1 | .fix ns ls b => sizes ls + b.size + ns.length + 1
def sizes : List T → Nat
  | [] => 0
  | t :: r => t.size + sizes r
end
mutual
def T.dep : T → Nat
  | .cint _ => 1 | .cun => 1 | .loc _ => 1 | .glob _ => 1
  | .setl _ v => v.dep + 1 | .lam _ _ b => b.dep + 1 | .call f xs => max f.dep (deps xs) + 1 | .seq xs => deps xs + 1 | .fix _ ls b => max (deps ls) b.dep + 1
def deps : List T → Nat
  | [] => 0
  | t :: r => max t.dep (deps r)
end
mutual
def T.tell : T → Dat
  | .cint i => .tuple [.int 0, .tuple [.str (Str.ofString (toString (i.val : Int)))], .tuple []]
  | .cun => .tuple [.int 0, .tuple [.str (Str.ofString "late")], .tuple []]
  | .loc n => .tuple [.int 1, .tuple [.int n], .tuple []]
  | .glob n => .tuple [.int 2, .tuple [.int n], .tuple []]
  | .setl n v => .tuple [.int 3, .tuple [.int n], .tuple [v.tell]]
  | .lam l ps b => .tuple [.int 7, .tuple [.int l, .tuple (dints ps), .int (-1)], .tuple [b.tell]]
  | .call f xs => .tuple [.int 8, .tuple [], .tuple (f.tell :: tells xs)]
  | .seq xs => .tuple [.int 9, .tuple [], .tuple (tells xs)]
  | .fix ns ls b => .tuple [.int 11, .tuple [.tuple (dints ns)], .tuple (tells ls ++ [b.tell])]
def tells : List T → List Dat
  | [] => []
  | t :: r => t.tell :: tells r
end
theorem tells_append : ∀ a b : List T, tells (a ++ b) = tells a ++ tells b
  | [], _ => rfl
  | t :: r, b => by simp only [List.cons_append, tells, tells_append r b]
theorem tells_map : ∀ a : List T, tells a = a.map T.tell
  | [] => rfl
  | t :: r => by simp only [tells, List.map_cons, tells_map r]
theorem tell_eq (t : T) : t.tell = .tuple [.int t.kind, .tuple t.own, .tuple (tells t.kids)] := by
  cases t <;> simp only [T.tell, T.kind, T.own, T.kids, tells, tells_append]
theorem sizes_append : ∀ a b : List T, sizes (a ++ b) = sizes a + sizes b
  | [], _ => by simp [sizes]
  | t :: r, b => by simp only [List.cons_append, sizes, sizes_append r b]; omega
theorem size_eq (t : T) : t.size = sizes t.kids + t.nums + 1 := by
  cases t <;> simp only [T.size, T.kids, T.nums, sizes, sizes_append] <;> omega
theorem size_pos (t : T) : 0 < t.size := by rw [size_eq]; omega
theorem size_mem : ∀ {l : List T} {t : T}, t ∈ l → t.size ≤ sizes l
  | _ :: r, _, .head _ => by simp only [sizes]; omega
  | _ :: r, _, .tail _ m => by have := size_mem m; simp only [sizes]; omega
theorem size_kid {t k : T} (h : k ∈ t.kids) : k.size < t.size := by have := size_mem h; rw [size_eq t]; omega
theorem len_sizes : ∀ l : List T, l.length ≤ sizes l
  | [] => Nat.le_refl _
  | t :: r => by have := len_sizes r; have := size_pos t; simp only [sizes, List.length_cons]; omega
theorem deps_append : ∀ a b : List T, deps (a ++ b) = max (deps a) (deps b)
  | [], _ => by simp [deps]
  | t :: r, b => by simp only [List.cons_append, deps, deps_append r b]; omega
theorem dep_eq (t : T) : t.dep = deps t.kids + 1 := by
  cases t <;> simp only [T.dep, T.kids, deps, deps_append] <;> omega
theorem dep_mem : ∀ {l : List T} {t : T}, t ∈ l → t.dep ≤ deps l
  | _ :: r, _, .head _ => by simp only [deps]; omega
  | _ :: r, _, .tail _ m => by have := dep_mem m; simp only [deps]; omega
theorem dep_kid {t k : T} (h : k ∈ t.kids) : k.dep < t.dep := by have := dep_mem h; rw [dep_eq t]; omega

/-! ## nodes in the ledger -/
abbrev ent (w : World) (x : String) (t : Tok) (v : Value) : DictEntry := ⟨PyData.keyHash w.params (Str.ofString x), .str (Str.ofString x) t, v⟩
mutual
inductive Nd (w : World) (P : Led) : Addr → T → Prop
  | cint {x d : Addr} {i : Fin 8} {t k : Tok} : (x, instObj 66 d) ∈ P → (d, dictOf [ent w "value" t (.int (i.val : Int) k)] 1) ∈ P → Nd w P x (.cint i)
  | cun {x d : Addr} {t : Tok} : (x, instObj 66 d) ∈ P → (d, dictOf [ent w "value" t (.ref 427)] 1) ∈ P → Nd w P x .cun
  | loc {x d : Addr} {n : Int} {t k : Tok} : (x, instObj 85 d) ∈ P → (d, dictOf [ent w "number" t (.int n k)] 1) ∈ P → Nd w P x (.loc n)
  | glob {x d : Addr} {n : Int} {t k : Tok} : (x, instObj 104 d) ∈ P → (d, dictOf [ent w "symbol" t (.int n k)] 1) ∈ P → Nd w P x (.glob n)
  | setl {x d v : Addr} {n : Int} {t k t2 : Tok} {tv : T} : (x, instObj 137 d) ∈ P → (d, dictOf [ent w "number" t (.int n k), ent w "value" t2 (.ref v)] 2) ∈ P → Nd w P v tv → Nd w P x (.setl n tv)
  | lam {x d b pl : Addr} {l : Int} {t1 t2 t3 t4 k1 k3 : Tok} {vs : List Value} {e : Nat} {ps : List Int} {tb : T} : (x, instObj 184 d) ∈ P →
      (d, dictOf [ent w "label" t1 (.int l k1), ent w "params" t2 (.ref pl), ent w "rest" t3 (.int (-1) k3), ent w "body" t4 (.ref b)] 4) ∈ P → (pl, listOf vs.toArray e) ∈ P → IntsAre vs ps → Nd w P b tb → Nd w P x (.lam l ps tb)
  | call {x d f ol : Addr} {t1 t2 : Tok} {vs : List Value} {e : Nat} {tf : T} {ts : List T} : (x, instObj 217 d) ∈ P → (d, dictOf [ent w "operator" t1 (.ref f), ent w "operands" t2 (.ref ol)] 2) ∈ P →
      (ol, listOf vs.toArray e) ∈ P → Nd w P f tf → Nds w P vs ts → Nd w P x (.call tf ts)
  | seq {x d ol : Addr} {t1 : Tok} {vs : List Value} {e : Nat} {ts : List T} : (x, instObj 250 d) ∈ P → (d, dictOf [ent w "items" t1 (.ref ol)] 1) ∈ P → (ol, listOf vs.toArray e) ∈ P → Nds w P vs ts → Nd w P x (.seq ts)
  | fix {x d nl ll b : Addr} {t1 t2 t3 : Tok} {vs us : List Value} {e e2 : Nat} {ns : List Int} {ts : List T} {tb : T} : (x, instObj 283 d) ∈ P →
      (d, dictOf [ent w "numbers" t1 (.ref nl), ent w "lambdas" t2 (.ref ll), ent w "body" t3 (.ref b)] 3) ∈ P → (nl, listOf us.toArray e2) ∈ P → IntsAre us ns → (ll, listOf vs.toArray e) ∈ P → Nds w P vs ts → Nd w P b tb → Nd w P x (.fix ns ts tb)
inductive Nds (w : World) (P : Led) : List Value → List T → Prop
  | nil : Nds w P [] []
  | cons {a : Addr} {t : T} {vs : List Value} {ts : List T} : Nd w P a t → Nds w P vs ts → Nds w P (.ref a :: vs) (t :: ts)
end
mutual
theorem Nd.mono {w : World} {P P' : Led} (hs : ∀ p ∈ P, p ∈ P') : ∀ {a : Addr} {t : T}, Nd w P a t → Nd w P' a t
  | _, _, .cint h1 h2 => .cint (hs _ h1) (hs _ h2)
  | _, _, .cun h1 h2 => .cun (hs _ h1) (hs _ h2)
  | _, _, .loc h1 h2 => .loc (hs _ h1) (hs _ h2)
  | _, _, .glob h1 h2 => .glob (hs _ h1) (hs _ h2)
  | _, _, .setl h1 h2 h3 => .setl (hs _ h1) (hs _ h2) (Nd.mono hs h3)
  | _, _, .lam h1 h2 h3 h4 h5 => .lam (hs _ h1) (hs _ h2) (hs _ h3) h4 (Nd.mono hs h5)
  | _, _, .call h1 h2 h3 h4 h5 => .call (hs _ h1) (hs _ h2) (hs _ h3) (Nd.mono hs h4) (Nds.mono hs h5)
  | _, _, .seq h1 h2 h3 h4 => .seq (hs _ h1) (hs _ h2) (hs _ h3) (Nds.mono hs h4)
  | _, _, .fix h1 h2 h3 h4 h5 h6 h7 => .fix (hs _ h1) (hs _ h2) (hs _ h3) h4 (hs _ h5) (Nds.mono hs h6) (Nd.mono hs h7)
theorem Nds.mono {w : World} {P P' : Led} (hs : ∀ p ∈ P, p ∈ P') : ∀ {vs : List Value} {ts : List T}, Nds w P vs ts → Nds w P' vs ts
  | _, _, .nil => .nil
  | _, _, .cons h r => .cons (Nd.mono hs h) (Nds.mono hs r)
end
theorem Nds.length {w : World} {P : Led} : ∀ {vs : List Value} {ts : List T}, Nds w P vs ts → vs.length = ts.length
  | _, _, .nil => rfl
  | _, _, .cons _ r => by rw [List.length_cons, List.length_cons, r.length]
theorem Nds.append {w : World} {P : Led} : ∀ {vs us : List Value} {ts ss : List T}, Nds w P vs ts → Nds w P us ss → Nds w P (vs ++ us) (ts ++ ss)
  | _, _, _, _, .nil, k => k
  | _, _, _, _, .cons h r, k => .cons h (r.append k)
theorem Nds.get {w : World} {P : Led} : ∀ {vs : List Value} {ts : List T} {i : Nat} {t : T}, Nds w P vs ts → ts[i]? = some t → ∃ a, vs[i]? = some (.ref a) ∧ Nd w P a t
  | _, _, 0, _, .cons h _, e => by cases e; exact ⟨_, rfl, h⟩
  | _, _, i + 1, _, .cons _ r, e => r.get (i := i) e
theorem Nds.get' {w : World} {P : Led} : ∀ {vs : List Value} {ts : List T} {i : Nat} {v : Value}, Nds w P vs ts → vs[i]? = some v → ∃ a t, v = .ref a ∧ ts[i]? = some t ∧ Nd w P a t
  | _, _, 0, _, .cons h _, e => by cases e; exact ⟨_, _, rfl, rfl, h⟩
  | _, _, i + 1, _, .cons _ r, e => r.get' (i := i) e
end Mine
end
section
namespace Mine
/-! ## the state of a frame -/
structure Cx where
  pp : Program
  loose : List Str
  mean : ExcName → Option Value
  mg : Str → Option Value
  mb : Str → Option Value
  A₀ : Around
  base : Heap
  outer : List Env
  g : Heap
  L : Addr
  A : Around
  s0 : Shared

def Apart (own P : Led) : Prop := ∀ q ∈ own, ∀ p ∈ P, p.1 ≠ q.1
structure St (w : World) (c : Cx) (m : Str → Option Value) (own P : Led) (s : Shared) : Prop where
  F : Fr c.g c.L s.heap m
  N : News c.g c.L s.heap (own ++ P)
  ap : Apart own P
  nd : (own.map (·.1)).Nodup
  X : (hd.heap_39 w.params).In c.g
  T : Top c.pp c.loose c.mean c.mg c.mb c.g
  B : Below c.A₀ c.base c.outer c.g
  hh : c.A.handled = none
  fr : ∃ e, c.A.frames = some (e :: c.outer) ∧ e.frame = some c.L ∧ e.scope.kind = .function
  eg : s.gens = c.s0.gens
  ed : s.drawn = c.s0.drawn
  eo : s.os = c.s0.os

section
variable {w : World} {c : Cx} {m m' : Str → Option Value} {own own' P P' : Led} {s : Shared}
theorem St.kin (S : St w c m own P s) : (hd.heap_39 w.params).In s.heap := S.X.keeps S.F.keep
theorem St.tr (S : St w c m own P s) : TopRead c.pp c.loose c.mg c.mb c.g := topRead_of S.T
theorem St.same (S : St w c m own P s) {h' : Heap} {tk : Nat} (F : Fr c.g c.L h' m') (N : News c.g c.L h' (own' ++ P')) (ap : Apart own' P') (nd : (own'.map (·.1)).Nodup) : St w c m' own' P' { s with heap := h', toks := tk } :=
  ⟨F, N, ap, nd, S.X, S.T, S.B, S.hh, S.fr, S.eg, S.ed, S.eo⟩
theorem St.tok (S : St w c m own P s) (tk : Nat) : St w c m own P { s with toks := tk } := ⟨S.F, S.N, S.ap, S.nd, S.X, S.T, S.B, S.hh, S.fr, S.eg, S.ed, S.eo⟩
theorem St.sub (S : St w c m own P s) (hs : ∀ p ∈ P', p ∈ P) : St w c m own P' s :=
  ⟨S.F, fun p hp => S.N p ((List.mem_append.mp hp).elim (fun h => List.mem_append_left _ h) fun h => List.mem_append_right _ (hs p h)), fun q hq p hp => S.ap q hq p (hs p hp), S.nd, S.X, S.T, S.B, S.hh, S.fr, S.eg, S.ed, S.eo⟩
theorem St.inP (S : St w c m own P s) {p : Addr × Obj} (h : p ∈ P) : s.heap.get? p.1 = some p.2 := (S.N p (List.mem_append_right _ h)).1
theorem St.inO (S : St w c m own P s) {p : Addr × Obj} (h : p ∈ own) : s.heap.get? p.1 = some p.2 := (S.N p (List.mem_append_left _ h)).1
/-- an own cell becomes a fact -/
theorem St.settle {x : Addr × Obj} (S : St w c m (x :: own) P s) : St w c m own (x :: P) s :=
  ⟨S.F, fun p hp => S.N p (by
    rcases List.mem_append.mp hp with h | h
    · exact .tail _ (List.mem_append_left _ h)
    · rcases List.mem_cons.mp h with rfl | h
      · exact .head _
      · exact .tail _ (List.mem_append_right _ h)), fun q hq p hp => by
    rcases List.mem_cons.mp hp with rfl | hp
    · have := (List.nodup_cons.mp S.nd).1
      exact fun e => this (List.mem_map.mpr ⟨q, hq, e.symm⟩)
    · exact S.ap q (.tail _ hq) p hp, (List.nodup_cons.mp S.nd).2, S.X, S.T, S.B, S.hh, S.fr, S.eg, S.ed, S.eo⟩
theorem St.swap {x y : Addr × Obj} (S : St w c m (x :: y :: own) P s) : St w c m (y :: x :: own) P s :=
  ⟨S.F, fun p hp => S.N p (by
    rcases List.mem_cons.mp hp with rfl | h
    · exact .tail _ (.head _)
    · rcases List.mem_cons.mp h with rfl | h
      · exact .head _
      · exact .tail _ (.tail _ h)), fun q hq p hp => by
    rcases List.mem_cons.mp hq with rfl | hq
    · exact S.ap _ (.tail _ (.head _)) p hp
    · rcases List.mem_cons.mp hq with rfl | hq
      · exact S.ap _ (.head _) p hp
      · exact S.ap _ (.tail _ (.tail _ hq)) p hp, by
    have h := S.nd
    simp only [List.map_cons, List.nodup_cons, List.mem_cons, not_or] at h ⊢
    exact ⟨⟨fun e => h.1.1 e.symm, h.2.1⟩, h.1.2, h.2.2⟩, S.X, S.T, S.B, S.hh, S.fr, S.eg, S.ed, S.eo⟩
theorem St.drop {x : Addr × Obj} (S : St w c m (x :: own) P s) : St w c m own P s := S.settle.sub fun _ h => .tail _ h
end


/-! ## locals by place -/
def asg : List (Str × NameKind) → List (Option Value) → Str → Option Value
  | n :: ns, o :: vs, y => if y = n.1 then o else asg ns vs y
  | _, _, _ => none
inductive LocV : List (Str × NameKind) → List (Option Value) → Str → Value → Prop
  | here {x : Str} {v : Value} {ns : List (Str × NameKind)} {vs : List (Option Value)} : LocV ((x, .local) :: ns) (some v :: vs) x v
  | there {x : Str} {v : Value} {n : Str × NameKind} {o : Option Value} {ns : List (Str × NameKind)} {vs : List (Option Value)} : LocV ns vs x v → LocV (n :: ns) (o :: vs) x v
inductive SetL : List (Str × NameKind) → List (Option Value) → Str → Value → List (Option Value) → Prop
  | here {x : Str} {v : Value} {o : Option Value} {ns : List (Str × NameKind)} {vs : List (Option Value)} : SetL ((x, .local) :: ns) (o :: vs) x v (some v :: vs)
  | hereN {x : Str} {v : Value} {ns : List (Str × NameKind)} : SetL ((x, .local) :: ns) [] x v [some v]
  | there {x : Str} {v : Value} {n : Str × NameKind} {o : Option Value} {ns : List (Str × NameKind)} {vs vs' : List (Option Value)} : SetL ns vs x v vs' → SetL (n :: ns) (o :: vs) x v (o :: vs')
  | thereN {x : Str} {v : Value} {n : Str × NameKind} {ns : List (Str × NameKind)} {vs' : List (Option Value)} : SetL ns [] x v vs' → SetL (n :: ns) [] x v (none :: vs')
def goodNs : List (Str × NameKind) → Bool
  | [] => true
  | n :: r => !(r.any (·.1 == n.1)) && n.1 != ("__debug__" : Str) && goodNs r
theorem goodNs_ne {n : Str × NameKind} {r : List (Str × NameKind)} (h : goodNs (n :: r) = true) : (∀ p ∈ r, p.1 ≠ n.1) ∧ (n.1 == ("__debug__" : Str)) = false ∧ goodNs r = true := by
  simp only [goodNs, Bool.and_eq_true, Bool.not_eq_true', List.any_eq_false, beq_iff_eq, bne] at h
  exact ⟨fun p hp => h.1.1 p hp, h.1.2, h.2⟩
theorem goodNs_mem : ∀ {ns : List (Str × NameKind)} {x : Str} {k : NameKind}, goodNs ns = true → (x, k) ∈ ns → ns.lookup x = some k ∧ (x == ("__debug__" : Str)) = false
  | n :: r, x, k, h, hm => by
    have g := goodNs_ne h
    rcases List.mem_cons.mp hm with e | hm
    · subst e
      exact ⟨by simp [List.lookup], g.2.1⟩
    · have ih := goodNs_mem g.2.2 hm
      refine ⟨?_, ih.2⟩
      have : (x == n.1) = false := beq_eq_false_iff_ne.mpr (g.1 _ hm)
      rw [List.lookup_cons, this]
      exact ih.1
theorem LocV.mem : ∀ {ns : List (Str × NameKind)} {vs : List (Option Value)} {x : Str} {v : Value}, LocV ns vs x v → (x, NameKind.local) ∈ ns
  | _, _, _, _, .here => .head _
  | _, _, _, _, .there h => .tail _ h.mem
theorem LocV.asg : ∀ {ns : List (Str × NameKind)} {vs : List (Option Value)} {x : Str} {v : Value}, goodNs ns = true → LocV ns vs x v → asg ns vs x = some v
  | _, _, _, _, _, .here => by simp [Mine.asg]
  | n :: ns, _, x, v, g, .there h => by
    have g' := goodNs_ne g
    rw [Mine.asg, if_neg (g'.1 _ h.mem)]
    exact h.asg g'.2.2
theorem SetL.mem : ∀ {ns : List (Str × NameKind)} {vs vs' : List (Option Value)} {x : Str} {v : Value}, SetL ns vs x v vs' → (x, NameKind.local) ∈ ns
  | _, _, _, _, _, .here => .head _
  | _, _, _, _, _, .hereN => .head _
  | _, _, _, _, _, .there h => .tail _ h.mem
  | _, _, _, _, _, .thereN h => .tail _ h.mem
theorem SetL.asg : ∀ {ns : List (Str × NameKind)} {vs vs' : List (Option Value)} {x : Str} {v : Value}, goodNs ns = true → SetL ns vs x v vs' → (fun y => if y = x then some v else asg ns vs y) = asg ns vs'
  | _, _, _, _, _, _, .here => by
    funext y
    simp only [Mine.asg]
    split <;> rfl
  | _, _, _, _, _, _, .hereN => by
    funext y
    simp only [Mine.asg]
  | n :: ns, _, _, x, v, g, .there h => by
    have g' := goodNs_ne g
    have hx := g'.1 _ h.mem
    funext y
    rw [Mine.asg, Mine.asg, ← h.asg g'.2.2]
    by_cases h1 : y = x
    · subst h1; simp [hx]
    · simp [h1]
  | n :: ns, _, _, x, v, g, .thereN h => by
    have g' := goodNs_ne g
    have hx := g'.1 _ h.mem
    funext y
    rw [Mine.asg, ← h.asg g'.2.2]
    by_cases h1 : y = x
    · subst h1; simp [hx]
    · have e0 : Mine.asg ns [] y = none := by cases ns <;> rfl
      simp only [if_neg h1, e0]
      simp only [Mine.asg]
      split <;> rfl
def prefixNs : List (Str × NameKind) → List Str → Bool
  | _, [] => true
  | n :: ns, p :: ps => n.1 == p && n.2 == .local && prefixNs ns ps
  | [], _ :: _ => false
def goodFn (ns : List (Str × NameKind)) (ps : List Str) : Bool := goodNs ns && prefixNs ns ps && ns.all (fun n => n.2 != .cell)
theorem lookup_zip_none {ps : List Str} {vs : List Value} {y : Str} (h : y ∉ ps) : (ps.zip vs).lookup y = none := by
  induction ps generalizing vs with
  | nil => rfl
  | cons p ps ih =>
    cases vs with
    | nil => rfl
    | cons v vs =>
      rw [List.zip_cons_cons, List.lookup_cons]
      have : (y == p) = false := beq_eq_false_iff_ne.mpr fun e => h (e ▸ .head _)
      rw [this]
      exact ih fun hm => h (.tail _ hm)
theorem lookup_append_none {l r : List (Str × Value)} {y : Str} (h : r.lookup y = none) : (r ++ l).lookup y = l.lookup y := by
  induction r with
  | nil => rfl
  | cons p r ih =>
    rw [List.lookup_cons] at h
    rw [List.cons_append, List.lookup_cons]
    cases hy : y == p.1 with
    | true => rw [hy] at h; cases h
    | false => rw [hy] at h; exact ih h
theorem lookup_append_some {l r : List (Str × Value)} {y : Str} {v : Value} (h : r.lookup y = some v) : (r ++ l).lookup y = some v := by
  induction r with
  | nil => cases h
  | cons p r ih =>
    rw [List.lookup_cons] at h
    rw [List.cons_append, List.lookup_cons]
    cases hy : y == p.1 with
    | true => rw [hy] at h; exact h
    | false => rw [hy] at h; exact ih h
theorem prefix_mem : ∀ {ns : List (Str × NameKind)} {ps : List Str}, prefixNs ns ps = true → ∀ p ∈ ps, (p, NameKind.local) ∈ ns
  | n :: ns, q :: ps, h, p, hp => by
    simp only [prefixNs, Bool.and_eq_true, beq_iff_eq] at h
    rcases List.mem_cons.mp hp with rfl | hp
    · rw [← h.1.1, ← h.1.2]; exact .head _
    · exact .tail _ (prefix_mem h.2 p hp)
  | [], q :: ps, h, _, _ => by simp [prefixNs] at h
theorem asg_nil (ns : List (Str × NameKind)) (y : Str) : asg ns [] y = none := by cases ns <;> rfl
theorem asg_args : ∀ {ns : List (Str × NameKind)} {ps : List Str} {vs : List Value} (y : Str), goodNs ns = true → prefixNs ns ps = true → ps.length = vs.length → (ps.zip vs).reverse.lookup y = asg ns (vs.map some) y
  | ns, [], [], y, _, _, _ => (asg_nil ns y).symm
  | [], _ :: _, _, _, _, h, _ => by simp [prefixNs] at h
  | n :: ns, p :: ps, v :: vs, y, g, h, hl => by
    simp only [prefixNs, Bool.and_eq_true, beq_iff_eq] at h
    have g' := goodNs_ne g
    obtain ⟨x, k⟩ := n
    obtain ⟨⟨rfl, hk⟩, hp⟩ := h
    have ih := asg_args (ns := ns) (ps := ps) (vs := vs) y g'.2.2 hp (by simpa using hl)
    rw [List.zip_cons_cons, List.reverse_cons, List.map_cons, asg]
    by_cases hy : y = x
    · subst hy
      have hn : y ∉ ps := fun hm => g'.1 _ (prefix_mem hp y hm) rfl
      have h0 : asg ns (vs.map some) y = none := by
        rw [← ih]
        have := lookup_zip_none (vs := vs) hn
        cases hq : (ps.zip vs).reverse.lookup y with
        | none => rfl
        | some u =>
          exfalso
          have hmem : ∀ {l : List (Str × Value)} {u : Value}, l.lookup y = some u → (y, u) ∈ l := by
            intro l u
            induction l with
            | nil => intro h; cases h
            | cons q l il =>
              intro h
              rw [List.lookup_cons] at h
              cases hyq : y == q.1 with
              | true => rw [hyq] at h; cases h; rw [eq_of_beq hyq]; exact .head _
              | false => rw [hyq] at h; exact .tail _ (il h)
          have := hmem hq
          rw [List.mem_reverse] at this
          exact hn (List.of_mem_zip this).1
      rw [h0] at ih
      rw [if_pos rfl, lookup_append_none ih]
      simp [List.lookup]
    · rw [if_neg hy]
      cases hq : (ps.zip vs).reverse.lookup y with
      | none =>
        rw [lookup_append_none hq]
        rw [hq] at ih
        rw [← ih]
        have : (y == x) = false := beq_eq_false_iff_ne.mpr hy
        simp [List.lookup, this]
      | some u =>
        rw [hq] at ih
        rw [← ih]
        exact lookup_append_some hq

def LocQ (ns : List (Str × NameKind)) (vs : List (Option Value)) (x : Str) (K : Value → Prop) : Prop := ∃ v, LocV ns vs x v ∧ K v
theorem LocQ.here {x : Str} {v : Value} {ns : List (Str × NameKind)} {vs : List (Option Value)} {K : Value → Prop} (h : K v) : LocQ ((x, .local) :: ns) (some v :: vs) x K := ⟨v, .here, h⟩
theorem LocQ.there {x : Str} {n : Str × NameKind} {o : Option Value} {ns : List (Str × NameKind)} {vs : List (Option Value)} {K : Value → Prop} (h : LocQ ns vs x K) : LocQ (n :: ns) (o :: vs) x K := let ⟨v, a, b⟩ := h; ⟨v, .there a, b⟩
def SetQ (ns : List (Str × NameKind)) (vs : List (Option Value)) (x : Str) (v : Value) (K : List (Option Value) → Prop) : Prop := ∃ vs', SetL ns vs x v vs' ∧ K vs'
theorem SetQ.here {x : Str} {v : Value} {o : Option Value} {ns : List (Str × NameKind)} {vs : List (Option Value)} {K : List (Option Value) → Prop} (h : K (some v :: vs)) : SetQ ((x, .local) :: ns) (o :: vs) x v K := ⟨_, .here, h⟩
theorem SetQ.hereN {x : Str} {v : Value} {ns : List (Str × NameKind)} {K : List (Option Value) → Prop} (h : K [some v]) : SetQ ((x, .local) :: ns) [] x v K := ⟨_, .hereN, h⟩
theorem SetQ.there {x : Str} {v : Value} {n : Str × NameKind} {o : Option Value} {ns : List (Str × NameKind)} {vs : List (Option Value)} {K : List (Option Value) → Prop} (h : SetQ ns vs x v (fun vs' => K (o :: vs'))) : SetQ (n :: ns) (o :: vs) x v K := let ⟨v, a, b⟩ := h; ⟨_, .there a, b⟩
theorem SetQ.thereN {x : Str} {v : Value} {n : Str × NameKind} {ns : List (Str × NameKind)} {K : List (Option Value) → Prop} (h : SetQ ns [] x v (fun vs' => K (none :: vs'))) : SetQ (n :: ns) [] x v K := let ⟨v, a, b⟩ := h; ⟨_, .thereN a, b⟩
abbrev fnSc (ns : List (Str × NameKind)) (mo : List (Str × Const)) : Scope := { kind := .function, names := ns, isGenerator := false, isCoroutine := false, more := mo }
abbrev PR : Program := PySem.Challenge.rw_pq1024_01.row.prog
def Pure (w : World) (k : Nat) (P : Led) (t : Sem Value) (Out : Led → Value → Prop) : Prop :=
  ∀ (c : Cx) (m : Str → Option Value) (own : Led) (s : Shared) (Q E : Value → Shared → Prop), St w c m own P s → c.A.depth + k < recursionLimit → c.A.units + 8 * k < cLine →
    (∀ r P' s', St w c m own P' s' → (∀ p ∈ P, p ∈ P') → Out P' r → Q r s') → wpAny (model PySem.Challenge.rw_pq1024_01.row.prog w) c.A t Q E s
theorem Pure.mono {w : World} {k k' : Nat} {P : Led} {t : Sem Value} {Out Out' : Led → Value → Prop} (h : Pure w k P t Out) (hc : k ≤ k') (ho : ∀ P' r, (∀ p ∈ P, p ∈ P') → Out P' r → Out' P' r) : Pure w k' P t Out' :=
  fun c m own s Q E S hd hu hret => h c m own s Q E S (by omega) (by omega) fun r P' s' S' hs o => hret r P' s' S' hs (ho _ _ hs o)

/-- how a body ends: cells' stand where cells stood -/
def Ends (w : World) (c : Cx) (P : Led) (Out : Led → Led → Value → Prop) (r : Value) (s' : Shared) : Prop :=
  ∃ m' cells' own' P', St w c m' (cells' ++ own') P' s' ∧ (∀ p ∈ P, p ∈ P') ∧ Out cells' P' r

theorem apart_left {a b P : Led} (h : Apart (a ++ b) P) : Apart a P := fun q hq => h q (List.mem_append_left _ hq)
theorem apart_right {a b P : Led} (h : Apart (a ++ b) P) : Apart b P := fun q hq => h q (List.mem_append_right _ hq)

theorem enterM {w : World} {c : Cx} {m : Str → Option Value} {cells rest P : Led} {s : Shared} {Q E : Value → Shared → Prop} {K : Frag} {name qual : Str} {params : Arguments} {body : List Stmt} {ns : List (Str × NameKind)} {mo : List (Str × Const)} {dV kV doc pm cdv ct oc : Value} {an od : Option Addr} {osl : Array (Option Value)} {f : Addr} {vs : List Value} {Out : Led → Led → Value → Prop}
    (hK : K = hd.heap_39 w.params) (S : St w c m (cells ++ rest) P s)
    (ho : K.lookup f = some ⟨oc, od, .func (fnOf name qual params body (fnSc ns mo) dV kV doc pm an cdv ct), osl⟩) (hcd : codeIn K cdv qual = true) (hroom : c.A.depth < recursionLimit)
    (hbind : BindsTo s (fnOf name qual params body (fnSc ns mo) dV kV doc pm an cdv ct) ⟨vs, []⟩ ((params.args.map (·.arg)).zip vs)) (hlen : (params.args.map (·.arg)).length = vs.length) (hgood : goodFn ns (params.args.map (·.arg)) = true)
    (h : ∀ c' s', goodNs ns = true → c'.A.depth = c.A.depth + 1 → c'.A.units = c.A.units + 3 → St w c' (asg ns (vs.map some)) cells P s' →
      wpAny (model PySem.Challenge.rw_pq1024_01.row.prog w) c'.A (execs body (envX qual (fnSc ns mo) c'.L f cdv [])) (fun fl s'' => Ends w c' P (fun cs P' r => cs.map (·.1) = cells.map (·.1) ∧ Out cs P' r) (match fl with | .ret v => v | _ => .none) s'') (fun _ _ => False) s')
    (ret : ∀ r cells' P' s', St w c m (cells' ++ rest) P' s' → cells'.map (·.1) = cells.map (·.1) → (∀ p ∈ P, p ∈ P') → Out cells' P' r → Q r s') :
    codeAny (model PySem.Challenge.rw_pq1024_01.row.prog w) c.A (.call (.ref f) ⟨vs, []⟩) (fun r s' => match r with | .ok (.ret v) => Q v s' | .ok _ => False | .error e => E e s') s := by
  subst hK
  obtain ⟨e, hA, hf, hke⟩ := S.fr
  have Nsub : News c.g c.L s.heap (cells ++ P) := fun p hp => S.N p ((List.mem_append.mp hp).elim (fun h => List.mem_append_left _ (List.mem_append_left _ h)) fun h => List.mem_append_right _ h)
  simp only [goodFn, Bool.and_eq_true, List.all_eq_true, bne_iff_ne, ne_eq] at hgood
  obtain ⟨⟨hg, hpre⟩, hcell⟩ := hgood
  have hloc : ∀ y ∈ (params.args.map (·.arg)).zip vs, (fnSc ns mo).names.lookup y.1 = some .local := fun y hy => (goodNs_mem hg (prefix_mem hpre _ (List.of_mem_zip hy).1)).1
  refine code_defG (news := cells ++ P) S.B S.F S.X Nsub S.T hA hf hke ho hcd hroom hbind hloc (fun g L' h₁ FG F' N' B' X' T' G' => ?_) rfl rfl rfl hcell
  have hasg : (fun y => ((params.args.map (·.arg)).zip vs).reverse.lookup y) = asg ns (vs.map some) := funext fun y => asg_args y hg hpre hlen
  rw [hasg] at F'
  have ndc : (cells.map (·.1)).Nodup := by
    have := S.nd
    rw [List.map_append] at this
    exact (List.nodup_append.mp this).1
  let c' : Cx := ⟨c.pp, c.loose, c.mean, c.mg, c.mb, c.A, c.base, e :: c.outer, g, L', c.A.deeper (envOf qual (fnSc ns mo) L' f cdv), s⟩
  have S' : St w c' (asg ns (vs.map some)) cells P { s with heap := h₁, toks := s.toks + ((params.args.map (·.arg)).zip vs).length } :=
    ⟨F', N', apart_left S.ap, ndc, X', T', B', S.hh, ⟨_, Around.frames_deeper B'.stack, rfl, rfl⟩, rfl, rfl, rfl⟩
  refine wpAny_mono (h c' _ hg rfl rfl S') (fun fl s' hdn => ?_) fun _ _ e => e.elim
  obtain ⟨m₂, cells', own', P', S₂, hs, hcs, hO⟩ := hdn
  refine ⟨L', m₂, (cells' ++ own') ++ P', S₂.F, S₂.N, fun F₃ N₃ => ?_⟩
  have hid : ∀ q ∈ rest, q.1 ∉ (cells ++ P).map (·.1) := fun q hq hm => by
    obtain ⟨p, hp, e⟩ := List.mem_map.mp hm
    rcases List.mem_append.mp hp with hp | hp
    · have := S.nd
      rw [List.map_append, List.nodup_append] at this
      exact this.2.2 p.1 (List.mem_map_of_mem hp) q.1 (List.mem_map_of_mem hq) e
    · exact S.ap q (List.mem_append_right _ hq) p hp e
  have gq : ∀ q ∈ rest, g.get? q.1 = some q.2 := fun q hq => G' _ _ (S.N q (List.mem_append_left _ (List.mem_append_right _ hq))).1 (hid q hq)
  have eq' : s' = { s with heap := s'.heap, toks := s'.toks } := by
    have h1 := S₂.eg
    have h2 := S₂.ed
    have h3 := S₂.eo
    cases s'
    dsimp only [c'] at h1 h2 h3
    subst h1 h2 h3
    rfl
  have ap' : Apart (cells' ++ rest) P' := by
    intro q hq p hp e
    rcases List.mem_append.mp hq with hq | hq
    · exact S₂.ap q (List.mem_append_left _ hq) p hp e
    · have h1 := (S₂.N p (List.mem_append_right _ hp)).2.2
      rw [e, gq q hq] at h1
      cases h1
  have nd' : ((cells' ++ rest).map (·.1)).Nodup := by
    have := S.nd
    rw [List.map_append] at this ⊢
    rw [hcs]; exact this
  refine ret _ cells' P' s' ⟨F₃, fun p hp => ?_, ap', nd', S.X, S.T, S.B, S.hh, S.fr, (congrArg Shared.gens eq').trans S.eg, (congrArg Shared.drawn eq').trans S.ed, (congrArg Shared.os eq').trans S.eo⟩ hcs hs hO
  rcases List.mem_append.mp hp with hp | hp
  · rcases List.mem_append.mp hp with hp | hp
    · exact N₃ p (List.mem_append_left _ (List.mem_append_left _ hp))
    · exact ⟨S₂.F.keep _ _ (gq p hp), (S.N p (List.mem_append_left _ (List.mem_append_right _ hp))).2⟩
  · exact N₃ p (List.mem_append_right _ hp)

theorem enter {w : World} {c : Cx} {m : Str → Option Value} {own P : Led} {s : Shared} {Q E : Value → Shared → Prop} {K : Frag} {name qual : Str} {params : Arguments} {body : List Stmt} {ns : List (Str × NameKind)} {mo : List (Str × Const)} {dV kV doc pm cdv ct oc : Value} {an od : Option Addr} {osl : Array (Option Value)} {f : Addr} {vs : List Value} {Out : Led → Value → Prop}
    (hK : K = hd.heap_39 w.params) (S : St w c m own P s)
    (ho : K.lookup f = some ⟨oc, od, .func (fnOf name qual params body (fnSc ns mo) dV kV doc pm an cdv ct), osl⟩) (hcd : codeIn K cdv qual = true) (hroom : c.A.depth < recursionLimit)
    (hbind : BindsTo s (fnOf name qual params body (fnSc ns mo) dV kV doc pm an cdv ct) ⟨vs, []⟩ ((params.args.map (·.arg)).zip vs)) (hlen : (params.args.map (·.arg)).length = vs.length) (hgood : goodFn ns (params.args.map (·.arg)) = true)
    (h : ∀ c' s', goodNs ns = true → c'.A.depth = c.A.depth + 1 → c'.A.units = c.A.units + 3 → St w c' (asg ns (vs.map some)) [] P s' →
      wpAny (model PySem.Challenge.rw_pq1024_01.row.prog w) c'.A (execs body (envX qual (fnSc ns mo) c'.L f cdv [])) (fun fl s'' => Ends w c' P (fun cs P' r => cs = [] ∧ Out P' r) (match fl with | .ret v => v | _ => .none) s'') (fun _ _ => False) s')
    (ret : ∀ r P' s', St w c m own P' s' → (∀ p ∈ P, p ∈ P') → Out P' r → Q r s') :
    codeAny (model PySem.Challenge.rw_pq1024_01.row.prog w) c.A (.call (.ref f) ⟨vs, []⟩) (fun r s' => match r with | .ok (.ret v) => Q v s' | .ok _ => False | .error e => E e s') s := by
  refine enterM (cells := []) (rest := own) (Out := fun cs P' r => cs = [] ∧ Out P' r) hK S ho hcd hroom hbind hlen hgood (fun c' s' h0 h1 h2 S' => wpAny_mono (h c' s' h0 h1 h2 S') (fun fl s'' hf => ?_) fun _ _ e => e) (fun r cs P' s' S' e hs o => ?_)
  · obtain ⟨m', cs, own', P', S'', hs, rfl, ho⟩ := hf
    exact ⟨m', [], own', P', S'', hs, rfl, rfl, ho⟩
  · obtain ⟨rfl, o⟩ := o
    exact ret r P' s' S' hs o
end Mine
end
section
namespace Mine
section
variable {w : World} {c : Cx} {m : Str → Option Value} {own P : Led} {s : Shared} {E : Value → Shared → Prop} {cn : Str} {cs : Scope} {a : Addr} {ccd : Value} {cl : List (Str × Addr)}
theorem ev_int {i : Int} {k : Nat} {pos : Pos} {env : Env} {Q : Value → Shared → Prop} (S : St w c m own P s) (h : ∀ s' tk, St w c m own P s' → Q (.int i tk) s') :
    wpAny (model PySem.Challenge.rw_pq1024_01.row.prog w) c.A (eval (.Constant (.int i) k pos) env) Q E s := wpAny_Constant_int (h _ _ (S.tok _))
theorem ev_str {x : Str} {k : Nat} {pos : Pos} {env : Env} {Q : Value → Shared → Prop} (S : St w c m own P s) (h : ∀ s' tk, St w c m own P s' → Q (.str x tk) s') :
    wpAny (model PySem.Challenge.rw_pq1024_01.row.prog w) c.A (eval (.Constant (.str x) k pos) env) Q E s := Constant_str (h _ _ (S.tok _))
theorem ev_loc {ns : List (Str × NameKind)} {mo : List (Str × Const)} {vals : List (Option Value)} {x : Str} {pos : Pos} {Q : Value → Shared → Prop} (S : St w c (asg ns vals) own P s) (g : goodNs ns = true) (h : LocQ ns vals x (fun v => Q v s)) :
    wpAny (model PySem.Challenge.rw_pq1024_01.row.prog w) c.A (eval (.Name x pos) (envX cn (fnSc ns mo) c.L a ccd cl)) Q E s := by
  obtain ⟨v, hl, h⟩ := h
  exact nameX_L S.F (hl.asg g) h rfl (goodNs_mem g hl.mem).1 (goodNs_mem g hl.mem).2
theorem ev_glob {ns : List (Str × NameKind)} {mo : List (Str × Const)} {x : Str} {pos : Pos} {v : Value} {Q : Value → Shared → Prop} (S : St w c m own P s) (g : goodNs ns = true) (e : nsIn (hd.heap_39 w.params) mainGlobals x = some (some v)) (hx : (x, NameKind.globalImplicit) ∈ ns) (h : Q v s) :
    wpAny (model PySem.Challenge.rw_pq1024_01.row.prog w) c.A (eval (.Name x pos) (envX cn (fnSc ns mo) c.L a ccd cl)) Q E s := nameX_K S.F S.X S.tr e h rfl (goodNs_mem g hx).1 (goodNs_mem g hx).2
theorem ev_bi {ns : List (Str × NameKind)} {mo : List (Str × Const)} {x : Str} {pos : Pos} {v : Value} {Q : Value → Shared → Prop} (S : St w c m own P s) (g : goodNs ns = true) (e : nsIn (hd.heap_39 w.params) mainGlobals x = some none) (hv : bootBuiltins x = some v) (hn : x ≠ "__name__") (hx : (x, NameKind.globalImplicit) ∈ ns) (h : Q v s) :
    wpAny (model PySem.Challenge.rw_pq1024_01.row.prog w) c.A (eval (.Name x pos) (envX cn (fnSc ns mo) c.L a ccd cl)) Q E s := nameX_B S.F S.X S.tr e hv hn h rfl (goodNs_mem g hx).1 (goodNs_mem g hx).2
theorem st_loc {ns : List (Str × NameKind)} {mo : List (Str × Const)} {vals : List (Option Value)} {x : Str} {v : Value} {Q : Unit → Shared → Prop} (S : St w c (asg ns vals) own P s) (g : goodNs ns = true) (h : SetQ ns vals x v (fun vals' => ∀ s', St w c (asg ns vals') own P s' → Q () s')) :
    wpAny (model PySem.Challenge.rw_pq1024_01.row.prog w) c.A (storeName (envX cn (fnSc ns mo) c.L a ccd cl) x v) Q E s := by
  obtain ⟨vals', hl, h⟩ := h
  exact storeX_L S.F S.N (fun h' F' N' => h _ (S.same (by rw [hl.asg g] at F'; exact F') N' S.ap S.nd)) rfl (goodNs_mem g hl.mem).1

theorem nl {vs : List Value} {Q : Value → Shared → Prop} (S : St w c m own P s) (h : ∀ l s', St w c m own ((l, listOf vs.toArray 0) :: P) s' → Q (.ref l) s') (hsz : vs.length ≤ sizeLine := by size_fits) :
    wpAny (model PySem.Challenge.rw_pq1024_01.row.prog w) c.A (newList vs) Q E s :=
  newList_K S.F S.N (fun l h' F' N' lt => h l _ (S.same F' (fun p hp => N' p (by
    rcases List.mem_append.mp hp with hp | hp
    · exact .tail _ (List.mem_append_left _ hp)
    · rcases List.mem_cons.mp hp with rfl | hp
      · exact .head _
      · exact .tail _ (List.mem_append_right _ hp))) (fun q hq p hp => by
    rcases List.mem_cons.mp hp with rfl | hp
    · exact fun e => by have := lt q (List.mem_append_left _ hq); rw [← e] at this; exact Nat.lt_irrefl _ this
    · exact S.ap q hq p hp) S.nd)) hsz
theorem nl_own {vs : List Value} {Q : Value → Shared → Prop} (S : St w c m own P s) (h : ∀ l s', St w c m ((l, listOf vs.toArray 0) :: own) P s' → Q (.ref l) s') (hsz : vs.length ≤ sizeLine := by size_fits) :
    wpAny (model PySem.Challenge.rw_pq1024_01.row.prog w) c.A (newList vs) Q E s :=
  newList_K S.F S.N (fun l h' F' N' lt => h l _ (S.same F' N' (fun q hq p hp => by
    rcases List.mem_cons.mp hq with rfl | hq
    · exact fun e => by have := lt p (List.mem_append_right _ hp); rw [e] at this; exact Nat.lt_irrefl _ this
    · exact S.ap q hq p hp) (by
    refine List.nodup_cons.mpr ⟨fun hm => ?_, S.nd⟩
    obtain ⟨q, hq, e⟩ := List.mem_map.mp hm
    have := lt q (List.mem_append_left _ hq)
    rw [e] at this
    exact Nat.lt_irrefl _ this))) hsz
abbrev tupOf (vs : List Value) (n : Nat) : Obj := { cls := .type "tuple", data := .seq vs.toArray n }
theorem nt {vs : List Value} {Q : Value → Shared → Prop} (S : St w c m own P s) (h : ∀ l s', St w c m own ((l, tupOf vs 0) :: P) s' → Q (.ref l) s') (hsz : vs.length ≤ sizeLine := by size_fits) :
    wpAny (model PySem.Challenge.rw_pq1024_01.row.prog w) c.A (newTuple vs) Q E s :=
  kup_newTuple S.F S.N (fun l h' F' N' lt => h l _ (S.same F' (fun p hp => N' p (by
    rcases List.mem_append.mp hp with hp | hp
    · exact .tail _ (List.mem_append_left _ hp)
    · rcases List.mem_cons.mp hp with rfl | hp
      · exact .head _
      · exact .tail _ (List.mem_append_right _ hp))) (fun q hq p hp => by
    rcases List.mem_cons.mp hp with rfl | hp
    · exact fun e => by have := lt q (List.mem_append_left _ hq); rw [← e] at this; exact Nat.lt_irrefl _ this
    · exact S.ap q hq p hp) S.nd)) hsz
theorem inst_at (S : St w c m own P s) {x C d : Addr} {od : Obj} (hx : (x, instObj C d) ∈ P) (hd : (d, od) ∈ P) : InstAt s.heap x (instObj C d) C (some od) :=
  ⟨S.inP hx, rfl, rfl, S.inP hd⟩
theorem ga {x C d : Addr} {es : List DictEntry} {n : Nat} {name : Str} {ex : Bool} {v : Value} {Q : Value → Shared → Prop} (hg : plainGet (hd.heap_39 w.params) C name = true) (hh : hasDictIn (hd.heap_39 w.params) C = true) (ha : findIn (hd.heap_39 w.params) (.ref C) name = some none)
    (S : St w c m own P s) (hx : (x, instObj C d) ∈ P) (hd : (d, dictOf es n) ∈ P) (hl : getL name es = some (some v)) (hv : handedIn v = true) (h : ∀ s', St w c m own P s' → Q v s') : wpAny (model PySem.Challenge.rw_pq1024_01.row.prog w) c.A (getAttr (.ref x) name ex) Q E s :=
  get_own S.F S.X (inst_at S hx hd) hg hh ha rfl hl hv (h _ (S.tok _))
theorem gc {x C d : Addr} {es : List DictEntry} {n : Nat} {name : Str} {ex : Bool} {a : Value} {Q : Value → Shared → Prop} (hg : plainGet (hd.heap_39 w.params) C name = true) (hh : hasDictIn (hd.heap_39 w.params) C = true) (ha : findIn (hd.heap_39 w.params) (.ref C) name = some (some a))
    (hn : specialIn (hd.heap_39 w.params) a "__get__" = some none) (hv : handedIn a = true) (hc : copiedNames.contains name = false)
    (S : St w c m own P s) (hx : (x, instObj C d) ∈ P) (hd : (d, dictOf es n) ∈ P) (hl : getL name es = some none) (h : ∀ s', St w c m own P s' → Q a s') : wpAny (model PySem.Challenge.rw_pq1024_01.row.prog w) c.A (getAttr (.ref x) name ex) Q E s :=
  get_cls S.F S.X (inst_at S hx hd) hg hh ha hn hv hc hl (h _ (S.tok _))
/-- calls of the text's own defs by name -/
theorem call1 {ns : List (Str × NameKind)} {mo : List (Str × Const)} {x : Str} {px pos : Pos} {fv : Value} {e1 : Expr} {Q : Value → Shared → Prop} (S : St w c m own P s) (g : goodNs ns = true) (e : nsIn (hd.heap_39 w.params) mainGlobals x = some (some fv)) (hkp : keepIn (hd.heap_39 w.params) fv = true) (hx : (x, NameKind.globalImplicit) ∈ ns)
    (h : wpAny (model PySem.Challenge.rw_pq1024_01.row.prog w) c.A (eval e1 (envX cn (fnSc ns mo) c.L a ccd cl)) (fun v1 s1 => (hd.heap_39 w.params).In s1.heap ∧ wpAny (model PySem.Challenge.rw_pq1024_01.row.prog w) c.A (call fv [v1]) Q E s1) E s)
    (he1 : starEach [e1] (envX cn (fnSc ns mo) c.L a ccd cl) = [(false, eval e1 (envX cn (fnSc ns mo) c.L a ccd cl))] := by rfl) :
    wpAny (model PySem.Challenge.rw_pq1024_01.row.prog w) c.A (eval (.Call (.Name x px) [e1] [] pos) (envX cn (fnSc ns mo) c.L a ccd cl)) Q E s := by
  refine Call_ (ev_glob S g e hx ?_) 
  refine callWith_K S.X hkp ?_ he1 rfl
  refine args_cons (wpAny_mono h (fun v s1 h1 => args_nil h1) fun _ _ e => e) he1
theorem call2 {ns : List (Str × NameKind)} {mo : List (Str × Const)} {x : Str} {px pos : Pos} {fv : Value} {e1 e2 : Expr} {Q : Value → Shared → Prop} (S : St w c m own P s) (g : goodNs ns = true) (e : nsIn (hd.heap_39 w.params) mainGlobals x = some (some fv)) (hkp : keepIn (hd.heap_39 w.params) fv = true) (hx : (x, NameKind.globalImplicit) ∈ ns)
    (h : wpAny (model PySem.Challenge.rw_pq1024_01.row.prog w) c.A (eval e1 (envX cn (fnSc ns mo) c.L a ccd cl)) (fun v1 s1 => wpAny (model PySem.Challenge.rw_pq1024_01.row.prog w) c.A (eval e2 (envX cn (fnSc ns mo) c.L a ccd cl)) (fun v2 s2 => (hd.heap_39 w.params).In s2.heap ∧ wpAny (model PySem.Challenge.rw_pq1024_01.row.prog w) c.A (call fv [v1, v2]) Q E s2) E s1) E s)
    (he1 : starEach [e1, e2] (envX cn (fnSc ns mo) c.L a ccd cl) = [(false, eval e1 (envX cn (fnSc ns mo) c.L a ccd cl)), (false, eval e2 (envX cn (fnSc ns mo) c.L a ccd cl))] := by rfl) (he2 : starEach [e2] (envX cn (fnSc ns mo) c.L a ccd cl) = [(false, eval e2 (envX cn (fnSc ns mo) c.L a ccd cl))] := by rfl) :
    wpAny (model PySem.Challenge.rw_pq1024_01.row.prog w) c.A (eval (.Call (.Name x px) [e1, e2] [] pos) (envX cn (fnSc ns mo) c.L a ccd cl)) Q E s := by
  refine Call_ (ev_glob S g e hx ?_) 
  refine callWith_K S.X hkp ?_ (by rw [he2]; exact he1) (by rw [he2]; rfl)
  exact args_cons (wpAny_mono h (fun v s1 h1 => args_cons (wpAny_mono h1 (fun v2 s2 h2 => args_nil h2) fun _ _ e => e) he2) fun _ _ e => e) (by rw [he2]; exact he1)
/-- a list or tuple display of written length -/
theorem sp0 {env : Env} {pos : Pos} {Q : List Value → Shared → Prop} (h : Q [] s) : wpAny (model PySem.Challenge.rw_pq1024_01.row.prog w) c.A (spliced (backTo pos (starEach [] env))) Q E s := args_nil h
theorem sp1 {env : Env} {e : Expr} {rest : List Expr} {pos : Pos} {Q : List Value → Shared → Prop} (h : wpAny (model PySem.Challenge.rw_pq1024_01.row.prog w) c.A (eval e env) (fun v s₁ => wpAny (model PySem.Challenge.rw_pq1024_01.row.prog w) c.A (spliced (backTo pos (starEach rest env))) (fun vs s₂ => Q (v :: vs) s₂) E s₁) E s)
    (he : starEach (e :: rest) env = (false, eval e env) :: starEach rest env := by rfl) : wpAny (model PySem.Challenge.rw_pq1024_01.row.prog w) c.A (spliced (backTo pos (starEach (e :: rest) env))) Q E s := args_cons h he
end
end Mine
end
section
namespace Mine
theorem g_CONST (w : World) : nsIn (hd.heap_39 w.params) mainGlobals (Str.ofString "CONST") = some (some (.int 0 196)) := by kernel_rfl
theorem g_LOCAL (w : World) : nsIn (hd.heap_39 w.params) mainGlobals (Str.ofString "LOCAL") = some (some (.int 1 198)) := by kernel_rfl
theorem g_GLOBAL (w : World) : nsIn (hd.heap_39 w.params) mainGlobals (Str.ofString "GLOBAL") = some (some (.int 2 200)) := by kernel_rfl
theorem g_SET_LOCAL (w : World) : nsIn (hd.heap_39 w.params) mainGlobals (Str.ofString "SET_LOCAL") = some (some (.int 3 202)) := by kernel_rfl
theorem g_SET_GLOBAL (w : World) : nsIn (hd.heap_39 w.params) mainGlobals (Str.ofString "SET_GLOBAL") = some (some (.int 4 204)) := by kernel_rfl
theorem g_DEFINE (w : World) : nsIn (hd.heap_39 w.params) mainGlobals (Str.ofString "DEFINE") = some (some (.int 5 206)) := by kernel_rfl
theorem g_LAMBDA (w : World) : nsIn (hd.heap_39 w.params) mainGlobals (Str.ofString "LAMBDA") = some (some (.int 7 208)) := by kernel_rfl
theorem g_CALL (w : World) : nsIn (hd.heap_39 w.params) mainGlobals (Str.ofString "CALL") = some (some (.int 8 210)) := by kernel_rfl
theorem g_SEQ (w : World) : nsIn (hd.heap_39 w.params) mainGlobals (Str.ofString "SEQ") = some (some (.int 9 212)) := by kernel_rfl
theorem g_PRIM (w : World) : nsIn (hd.heap_39 w.params) mainGlobals (Str.ofString "PRIM") = some (some (.int 10 214)) := by kernel_rfl
theorem g_FIX (w : World) : nsIn (hd.heap_39 w.params) mainGlobals (Str.ofString "FIX") = some (some (.int 11 216)) := by kernel_rfl
theorem g_TOP (w : World) : nsIn (hd.heap_39 w.params) mainGlobals (Str.ofString "TOP") = some (some (.int (-1) 620)) := by kernel_rfl
theorem g_UNASSIGNED (w : World) : nsIn (hd.heap_39 w.params) mainGlobals (Str.ofString "UNASSIGNED") = some (some (.ref 427)) := by kernel_rfl
theorem g_Const (w : World) : nsIn (hd.heap_39 w.params) mainGlobals (Str.ofString "Const") = some (some (.ref 66)) := by kernel_rfl
theorem kp_Const (w : World) : keepIn (hd.heap_39 w.params) (.ref 66) = true := by kernel_rfl
theorem g_Local (w : World) : nsIn (hd.heap_39 w.params) mainGlobals (Str.ofString "Local") = some (some (.ref 85)) := by kernel_rfl
theorem kp_Local (w : World) : keepIn (hd.heap_39 w.params) (.ref 85) = true := by kernel_rfl
theorem g_Global (w : World) : nsIn (hd.heap_39 w.params) mainGlobals (Str.ofString "Global") = some (some (.ref 104)) := by kernel_rfl
theorem kp_Global (w : World) : keepIn (hd.heap_39 w.params) (.ref 104) = true := by kernel_rfl
theorem g_SetLocal (w : World) : nsIn (hd.heap_39 w.params) mainGlobals (Str.ofString "SetLocal") = some (some (.ref 137)) := by kernel_rfl
theorem kp_SetLocal (w : World) : keepIn (hd.heap_39 w.params) (.ref 137) = true := by kernel_rfl
theorem g_Lambda (w : World) : nsIn (hd.heap_39 w.params) mainGlobals (Str.ofString "Lambda") = some (some (.ref 184)) := by kernel_rfl
theorem kp_Lambda (w : World) : keepIn (hd.heap_39 w.params) (.ref 184) = true := by kernel_rfl
theorem g_Call (w : World) : nsIn (hd.heap_39 w.params) mainGlobals (Str.ofString "Call") = some (some (.ref 217)) := by kernel_rfl
theorem kp_Call (w : World) : keepIn (hd.heap_39 w.params) (.ref 217) = true := by kernel_rfl
theorem g_Seq (w : World) : nsIn (hd.heap_39 w.params) mainGlobals (Str.ofString "Seq") = some (some (.ref 250)) := by kernel_rfl
theorem kp_Seq (w : World) : keepIn (hd.heap_39 w.params) (.ref 250) = true := by kernel_rfl
theorem g_Fix (w : World) : nsIn (hd.heap_39 w.params) mainGlobals (Str.ofString "Fix") = some (some (.ref 283)) := by kernel_rfl
theorem kp_Fix (w : World) : keepIn (hd.heap_39 w.params) (.ref 283) = true := by kernel_rfl
theorem g_are_same_list (w : World) : nsIn (hd.heap_39 w.params) mainGlobals (Str.ofString "are_same_list") = some (some (.ref 292)) := by kernel_rfl
theorem kp_are_same_list (w : World) : keepIn (hd.heap_39 w.params) (.ref 292) = true := by kernel_rfl
theorem g_rebuilt (w : World) : nsIn (hd.heap_39 w.params) mainGlobals (Str.ofString "rebuilt") = some (some (.ref 299)) := by kernel_rfl
theorem kp_rebuilt (w : World) : keepIn (hd.heap_39 w.params) (.ref 299) = true := by kernel_rfl
theorem g_let_node (w : World) : nsIn (hd.heap_39 w.params) mainGlobals (Str.ofString "let_node") = some (some (.ref 306)) := by kernel_rfl
theorem kp_let_node (w : World) : keepIn (hd.heap_39 w.params) (.ref 306) = true := by kernel_rfl
theorem g_is_let (w : World) : nsIn (hd.heap_39 w.params) mainGlobals (Str.ofString "is_let") = some (some (.ref 313)) := by kernel_rfl
theorem kp_is_let (w : World) : keepIn (hd.heap_39 w.params) (.ref 313) = true := by kernel_rfl
theorem g_seq_of (w : World) : nsIn (hd.heap_39 w.params) mainGlobals (Str.ofString "seq_of") = some (some (.ref 320)) := by kernel_rfl
theorem kp_seq_of (w : World) : keepIn (hd.heap_39 w.params) (.ref 320) = true := by kernel_rfl
theorem g_Facts (w : World) : nsIn (hd.heap_39 w.params) mainGlobals (Str.ofString "Facts") = some (some (.ref 379)) := by kernel_rfl
theorem kp_Facts (w : World) : keepIn (hd.heap_39 w.params) (.ref 379) = true := by kernel_rfl
theorem g_count_in (w : World) : nsIn (hd.heap_39 w.params) mainGlobals (Str.ofString "count_in") = some (some (.ref 390)) := by kernel_rfl
theorem kp_count_in (w : World) : keepIn (hd.heap_39 w.params) (.ref 390) = true := by kernel_rfl
theorem g_note_node (w : World) : nsIn (hd.heap_39 w.params) mainGlobals (Str.ofString "note_node") = some (some (.ref 397)) := by kernel_rfl
theorem kp_note_node (w : World) : keepIn (hd.heap_39 w.params) (.ref 397) = true := by kernel_rfl
theorem g_facts_of (w : World) : nsIn (hd.heap_39 w.params) mainGlobals (Str.ofString "facts_of") = some (some (.ref 404)) := by kernel_rfl
theorem kp_facts_of (w : World) : keepIn (hd.heap_39 w.params) (.ref 404) = true := by kernel_rfl
theorem g_Pair (w : World) : nsIn (hd.heap_39 w.params) mainGlobals (Str.ofString "Pair") = some (some (.ref 445)) := by kernel_rfl
theorem kp_Pair (w : World) : keepIn (hd.heap_39 w.params) (.ref 445) = true := by kernel_rfl
theorem g_is_unassigned (w : World) : nsIn (hd.heap_39 w.params) mainGlobals (Str.ofString "is_unassigned") = some (some (.ref 456)) := by kernel_rfl
theorem kp_is_unassigned (w : World) : keepIn (hd.heap_39 w.params) (.ref 456) = true := by kernel_rfl
theorem g_begun_late (w : World) : nsIn (hd.heap_39 w.params) mainGlobals (Str.ofString "begun_late") = some (some (.ref 463)) := by kernel_rfl
theorem kp_begun_late (w : World) : keepIn (hd.heap_39 w.params) (.ref 463) = true := by kernel_rfl
theorem g_Fixing (w : World) : nsIn (hd.heap_39 w.params) mainGlobals (Str.ofString "Fixing") = some (some (.ref 501)) := by kernel_rfl
theorem kp_Fixing (w : World) : keepIn (hd.heap_39 w.params) (.ref 501) = true := by kernel_rfl
theorem g_fixed (w : World) : nsIn (hd.heap_39 w.params) mainGlobals (Str.ofString "fixed") = some (some (.ref 512)) := by kernel_rfl
theorem kp_fixed (w : World) : keepIn (hd.heap_39 w.params) (.ref 512) = true := by kernel_rfl
theorem g_law_draw (w : World) : nsIn (hd.heap_39 w.params) mainGlobals (Str.ofString "_law_draw") = some (some (.ref 519)) := by kernel_rfl
theorem kp_law_draw (w : World) : keepIn (hd.heap_39 w.params) (.ref 519) = true := by kernel_rfl
theorem g_law_deck_of (w : World) : nsIn (hd.heap_39 w.params) mainGlobals (Str.ofString "_law_deck_of") = some (some (.ref 524)) := by kernel_rfl
theorem kp_law_deck_of (w : World) : keepIn (hd.heap_39 w.params) (.ref 524) = true := by kernel_rfl
theorem g_law_one (w : World) : nsIn (hd.heap_39 w.params) mainGlobals (Str.ofString "_law_one") = some (some (.ref 531)) := by kernel_rfl
theorem kp_law_one (w : World) : keepIn (hd.heap_39 w.params) (.ref 531) = true := by kernel_rfl
theorem g_law_new (w : World) : nsIn (hd.heap_39 w.params) mainGlobals (Str.ofString "_law_new") = some (some (.ref 538)) := by kernel_rfl
theorem kp_law_new (w : World) : keepIn (hd.heap_39 w.params) (.ref 538) = true := by kernel_rfl
theorem g_law_told (w : World) : nsIn (hd.heap_39 w.params) mainGlobals (Str.ofString "_law_told") = some (some (.ref 543)) := by kernel_rfl
theorem kp_law_told (w : World) : keepIn (hd.heap_39 w.params) (.ref 543) = true := by kernel_rfl
theorem g_law_value_of (w : World) : nsIn (hd.heap_39 w.params) mainGlobals (Str.ofString "_law_value_of") = some (some (.ref 550)) := by kernel_rfl
theorem kp_law_value_of (w : World) : keepIn (hd.heap_39 w.params) (.ref 550) = true := by kernel_rfl
theorem g_law_late (w : World) : nsIn (hd.heap_39 w.params) mainGlobals (Str.ofString "_law_late") = some (some (.ref 555)) := by kernel_rfl
theorem kp_law_late (w : World) : keepIn (hd.heap_39 w.params) (.ref 555) = true := by kernel_rfl
theorem g_law_times_set (w : World) : nsIn (hd.heap_39 w.params) mainGlobals (Str.ofString "_law_times_set") = some (some (.ref 560)) := by kernel_rfl
theorem kp_law_times_set (w : World) : keepIn (hd.heap_39 w.params) (.ref 560) = true := by kernel_rfl
theorem g_law_due_of (w : World) : nsIn (hd.heap_39 w.params) mainGlobals (Str.ofString "_law_due_of") = some (some (.ref 565)) := by kernel_rfl
theorem kp_law_due_of (w : World) : keepIn (hd.heap_39 w.params) (.ref 565) = true := by kernel_rfl
theorem gn_len (w : World) : nsIn (hd.heap_39 w.params) mainGlobals (Str.ofString "len") = some none := by kernel_rfl
theorem gn_range (w : World) : nsIn (hd.heap_39 w.params) mainGlobals (Str.ofString "range") = some none := by kernel_rfl
theorem gn_tuple (w : World) : nsIn (hd.heap_39 w.params) mainGlobals (Str.ofString "tuple") = some none := by kernel_rfl
theorem gn_isinstance (w : World) : nsIn (hd.heap_39 w.params) mainGlobals (Str.ofString "isinstance") = some none := by kernel_rfl
theorem gn_int (w : World) : nsIn (hd.heap_39 w.params) mainGlobals (Str.ofString "int") = some none := by kernel_rfl
theorem gn_bool (w : World) : nsIn (hd.heap_39 w.params) mainGlobals (Str.ofString "bool") = some none := by kernel_rfl
theorem gn_repr (w : World) : nsIn (hd.heap_39 w.params) mainGlobals (Str.ofString "repr") = some none := by kernel_rfl
theorem gn_list (w : World) : nsIn (hd.heap_39 w.params) mainGlobals (Str.ofString "list") = some none := by kernel_rfl
theorem gn_zip (w : World) : nsIn (hd.heap_39 w.params) mainGlobals (Str.ofString "zip") = some none := by kernel_rfl
theorem gn_abs (w : World) : nsIn (hd.heap_39 w.params) mainGlobals (Str.ofString "abs") = some none := by kernel_rfl
theorem gn_sum (w : World) : nsIn (hd.heap_39 w.params) mainGlobals (Str.ofString "sum") = some none := by kernel_rfl
theorem pg_Const (w : World) (x : Str) : plainGet (hd.heap_39 w.params) 66 x = true := by kernel_rfl
theorem hh_Const (w : World) : hasDictIn (hd.heap_39 w.params) 66 = true := by kernel_rfl
theorem fi_Const_value (w : World) : findIn (hd.heap_39 w.params) (.ref 66) (Str.ofString "value") = some none := by kernel_rfl
theorem pg_Local (w : World) (x : Str) : plainGet (hd.heap_39 w.params) 85 x = true := by kernel_rfl
theorem hh_Local (w : World) : hasDictIn (hd.heap_39 w.params) 85 = true := by kernel_rfl
theorem fi_Local_number (w : World) : findIn (hd.heap_39 w.params) (.ref 85) (Str.ofString "number") = some none := by kernel_rfl
theorem pg_Global (w : World) (x : Str) : plainGet (hd.heap_39 w.params) 104 x = true := by kernel_rfl
theorem hh_Global (w : World) : hasDictIn (hd.heap_39 w.params) 104 = true := by kernel_rfl
theorem fi_Global_symbol (w : World) : findIn (hd.heap_39 w.params) (.ref 104) (Str.ofString "symbol") = some none := by kernel_rfl
theorem pg_SetLocal (w : World) (x : Str) : plainGet (hd.heap_39 w.params) 137 x = true := by kernel_rfl
theorem hh_SetLocal (w : World) : hasDictIn (hd.heap_39 w.params) 137 = true := by kernel_rfl
theorem fi_SetLocal_number (w : World) : findIn (hd.heap_39 w.params) (.ref 137) (Str.ofString "number") = some none := by kernel_rfl
theorem fi_SetLocal_value (w : World) : findIn (hd.heap_39 w.params) (.ref 137) (Str.ofString "value") = some none := by kernel_rfl
theorem pg_Lambda (w : World) (x : Str) : plainGet (hd.heap_39 w.params) 184 x = true := by kernel_rfl
theorem hh_Lambda (w : World) : hasDictIn (hd.heap_39 w.params) 184 = true := by kernel_rfl
theorem fi_Lambda_label (w : World) : findIn (hd.heap_39 w.params) (.ref 184) (Str.ofString "label") = some none := by kernel_rfl
theorem fi_Lambda_params (w : World) : findIn (hd.heap_39 w.params) (.ref 184) (Str.ofString "params") = some none := by kernel_rfl
theorem fi_Lambda_rest (w : World) : findIn (hd.heap_39 w.params) (.ref 184) (Str.ofString "rest") = some none := by kernel_rfl
theorem fi_Lambda_body (w : World) : findIn (hd.heap_39 w.params) (.ref 184) (Str.ofString "body") = some none := by kernel_rfl
theorem pg_Call (w : World) (x : Str) : plainGet (hd.heap_39 w.params) 217 x = true := by kernel_rfl
theorem hh_Call (w : World) : hasDictIn (hd.heap_39 w.params) 217 = true := by kernel_rfl
theorem fi_Call_operator (w : World) : findIn (hd.heap_39 w.params) (.ref 217) (Str.ofString "operator") = some none := by kernel_rfl
theorem fi_Call_operands (w : World) : findIn (hd.heap_39 w.params) (.ref 217) (Str.ofString "operands") = some none := by kernel_rfl
theorem pg_Seq (w : World) (x : Str) : plainGet (hd.heap_39 w.params) 250 x = true := by kernel_rfl
theorem hh_Seq (w : World) : hasDictIn (hd.heap_39 w.params) 250 = true := by kernel_rfl
theorem fi_Seq_items (w : World) : findIn (hd.heap_39 w.params) (.ref 250) (Str.ofString "items") = some none := by kernel_rfl
theorem pg_Fix (w : World) (x : Str) : plainGet (hd.heap_39 w.params) 283 x = true := by kernel_rfl
theorem hh_Fix (w : World) : hasDictIn (hd.heap_39 w.params) 283 = true := by kernel_rfl
theorem fi_Fix_numbers (w : World) : findIn (hd.heap_39 w.params) (.ref 283) (Str.ofString "numbers") = some none := by kernel_rfl
theorem fi_Fix_lambdas (w : World) : findIn (hd.heap_39 w.params) (.ref 283) (Str.ofString "lambdas") = some none := by kernel_rfl
theorem fi_Fix_body (w : World) : findIn (hd.heap_39 w.params) (.ref 283) (Str.ofString "body") = some none := by kernel_rfl
theorem pg_Facts (w : World) (x : Str) : plainGet (hd.heap_39 w.params) 379 x = true := by kernel_rfl
theorem hh_Facts (w : World) : hasDictIn (hd.heap_39 w.params) 379 = true := by kernel_rfl
theorem fi_Facts_read (w : World) : findIn (hd.heap_39 w.params) (.ref 379) (Str.ofString "read") = some none := by kernel_rfl
theorem fi_Facts_set (w : World) : findIn (hd.heap_39 w.params) (.ref 379) (Str.ofString "set") = some none := by kernel_rfl
theorem fi_Facts_called (w : World) : findIn (hd.heap_39 w.params) (.ref 379) (Str.ofString "called") = some none := by kernel_rfl
theorem fi_Facts_bound (w : World) : findIn (hd.heap_39 w.params) (.ref 379) (Str.ofString "bound") = some none := by kernel_rfl
theorem fi_Facts_caught (w : World) : findIn (hd.heap_39 w.params) (.ref 379) (Str.ofString "caught") = some none := by kernel_rfl
theorem fi_Facts_parent (w : World) : findIn (hd.heap_39 w.params) (.ref 379) (Str.ofString "parent") = some none := by kernel_rfl
theorem fi_Facts_lets (w : World) : findIn (hd.heap_39 w.params) (.ref 379) (Str.ofString "lets") = some none := by kernel_rfl
theorem fi_Facts_inner (w : World) : findIn (hd.heap_39 w.params) (.ref 379) (Str.ofString "inner") = some none := by kernel_rfl
theorem fi_Facts_read_globals (w : World) : findIn (hd.heap_39 w.params) (.ref 379) (Str.ofString "read_globals") = some none := by kernel_rfl
theorem fi_Facts_set_globals (w : World) : findIn (hd.heap_39 w.params) (.ref 379) (Str.ofString "set_globals") = some none := by kernel_rfl
theorem pg_Fixing (w : World) (x : Str) : plainGet (hd.heap_39 w.params) 501 x = true := by kernel_rfl
theorem hh_Fixing (w : World) : hasDictIn (hd.heap_39 w.params) 501 = true := by kernel_rfl
theorem fi_Fixing_facts (w : World) : findIn (hd.heap_39 w.params) (.ref 501) (Str.ofString "facts") = some none := by kernel_rfl
theorem fk_Const (w : World) : findIn (hd.heap_39 w.params) (.ref 66) (Str.ofString "kind") = some (some (.int 0 196)) := by kernel_rfl
theorem sk_Const (w : World) : specialIn (hd.heap_39 w.params) (.int 0 196) "__get__" = some none := by kernel_rfl
theorem fk_Local (w : World) : findIn (hd.heap_39 w.params) (.ref 85) (Str.ofString "kind") = some (some (.int 1 198)) := by kernel_rfl
theorem sk_Local (w : World) : specialIn (hd.heap_39 w.params) (.int 1 198) "__get__" = some none := by kernel_rfl
theorem fk_Global (w : World) : findIn (hd.heap_39 w.params) (.ref 104) (Str.ofString "kind") = some (some (.int 2 200)) := by kernel_rfl
theorem sk_Global (w : World) : specialIn (hd.heap_39 w.params) (.int 2 200) "__get__" = some none := by kernel_rfl
theorem fk_SetLocal (w : World) : findIn (hd.heap_39 w.params) (.ref 137) (Str.ofString "kind") = some (some (.int 3 202)) := by kernel_rfl
theorem sk_SetLocal (w : World) : specialIn (hd.heap_39 w.params) (.int 3 202) "__get__" = some none := by kernel_rfl
theorem fk_Lambda (w : World) : findIn (hd.heap_39 w.params) (.ref 184) (Str.ofString "kind") = some (some (.int 7 208)) := by kernel_rfl
theorem sk_Lambda (w : World) : specialIn (hd.heap_39 w.params) (.int 7 208) "__get__" = some none := by kernel_rfl
theorem fk_Call (w : World) : findIn (hd.heap_39 w.params) (.ref 217) (Str.ofString "kind") = some (some (.int 8 210)) := by kernel_rfl
theorem sk_Call (w : World) : specialIn (hd.heap_39 w.params) (.int 8 210) "__get__" = some none := by kernel_rfl
theorem fk_Seq (w : World) : findIn (hd.heap_39 w.params) (.ref 250) (Str.ofString "kind") = some (some (.int 9 212)) := by kernel_rfl
theorem sk_Seq (w : World) : specialIn (hd.heap_39 w.params) (.int 9 212) "__get__" = some none := by kernel_rfl
theorem fk_Fix (w : World) : findIn (hd.heap_39 w.params) (.ref 283) (Str.ofString "kind") = some (some (.int 11 216)) := by kernel_rfl
theorem sk_Fix (w : World) : specialIn (hd.heap_39 w.params) (.int 11 216) "__get__" = some none := by kernel_rfl
section
variable {w : World} {c : Cx} {m : Str → Option Value} {own P P₀ : Led} {s : Shared} {E : Value → Shared → Prop} {Q : Value → Shared → Prop} {x : Addr} {ex : Bool}
theorem at_kind {t : T} (S : St w c m own P s) (h : Nd w P₀ x t) (hs : ∀ p ∈ P₀, p ∈ P) {kd : Int} (hkd : t.kind = kd) (k : ∀ s' tk, St w c m own P s' → Q (.int kd tk) s') : wpAny (model PySem.Challenge.rw_pq1024_01.row.prog w) c.A (getAttr (.ref x) (Str.ofString "kind") ex) Q E s := by
  subst hkd
  cases h
  case cint => exact gc (pg_Const w _) (hh_Const w) (fk_Const w) (sk_Const w) rfl (by decide +kernel) S (hs _ (by assumption)) (hs _ (by assumption)) rfl (fun s' S' => k s' _ S')
  case cun => exact gc (pg_Const w _) (hh_Const w) (fk_Const w) (sk_Const w) rfl (by decide +kernel) S (hs _ (by assumption)) (hs _ (by assumption)) rfl (fun s' S' => k s' _ S')
  case loc => exact gc (pg_Local w _) (hh_Local w) (fk_Local w) (sk_Local w) rfl (by decide +kernel) S (hs _ (by assumption)) (hs _ (by assumption)) rfl (fun s' S' => k s' _ S')
  case glob => exact gc (pg_Global w _) (hh_Global w) (fk_Global w) (sk_Global w) rfl (by decide +kernel) S (hs _ (by assumption)) (hs _ (by assumption)) rfl (fun s' S' => k s' _ S')
  case setl => exact gc (pg_SetLocal w _) (hh_SetLocal w) (fk_SetLocal w) (sk_SetLocal w) rfl (by decide +kernel) S (hs _ (by assumption)) (hs _ (by assumption)) rfl (fun s' S' => k s' _ S')
  case lam => exact gc (pg_Lambda w _) (hh_Lambda w) (fk_Lambda w) (sk_Lambda w) rfl (by decide +kernel) S (hs _ (by assumption)) (hs _ (by assumption)) rfl (fun s' S' => k s' _ S')
  case call => exact gc (pg_Call w _) (hh_Call w) (fk_Call w) (sk_Call w) rfl (by decide +kernel) S (hs _ (by assumption)) (hs _ (by assumption)) rfl (fun s' S' => k s' _ S')
  case seq => exact gc (pg_Seq w _) (hh_Seq w) (fk_Seq w) (sk_Seq w) rfl (by decide +kernel) S (hs _ (by assumption)) (hs _ (by assumption)) rfl (fun s' S' => k s' _ S')
  case fix => exact gc (pg_Fix w _) (hh_Fix w) (fk_Fix w) (sk_Fix w) rfl (by decide +kernel) S (hs _ (by assumption)) (hs _ (by assumption)) rfl (fun s' S' => k s' _ S')
theorem at_cint {i : Fin 8} (S : St w c m own P s) (h : Nd w P₀ x (.cint i)) (hs : ∀ p ∈ P₀, p ∈ P) (k : ∀ s' tk, St w c m own P s' → Q (.int (i.val : Int) tk) s') : wpAny (model PySem.Challenge.rw_pq1024_01.row.prog w) c.A (getAttr (.ref x) (Str.ofString "value") ex) Q E s := by
  cases h with
  | cint h1 h2 => exact ga (pg_Const w _) (hh_Const w) (fi_Const_value w) S (hs _ h1) (hs _ h2) rfl rfl (fun s' S' => k s' _ S')
theorem at_cun  (S : St w c m own P s) (h : Nd w P₀ x (.cun)) (hs : ∀ p ∈ P₀, p ∈ P) (k : ∀ s', St w c m own P s' → Q (.ref 427) s') : wpAny (model PySem.Challenge.rw_pq1024_01.row.prog w) c.A (getAttr (.ref x) (Str.ofString "value") ex) Q E s := by
  cases h with
  | cun h1 h2 => exact ga (pg_Const w _) (hh_Const w) (fi_Const_value w) S (hs _ h1) (hs _ h2) rfl rfl (fun s' S' => k s' S')
theorem at_loc {n : Int} (S : St w c m own P s) (h : Nd w P₀ x (.loc n)) (hs : ∀ p ∈ P₀, p ∈ P) (k : ∀ s' tk, St w c m own P s' → Q (.int n tk) s') : wpAny (model PySem.Challenge.rw_pq1024_01.row.prog w) c.A (getAttr (.ref x) (Str.ofString "number") ex) Q E s := by
  cases h with
  | loc h1 h2 => exact ga (pg_Local w _) (hh_Local w) (fi_Local_number w) S (hs _ h1) (hs _ h2) rfl rfl (fun s' S' => k s' _ S')
theorem at_glob {n : Int} (S : St w c m own P s) (h : Nd w P₀ x (.glob n)) (hs : ∀ p ∈ P₀, p ∈ P) (k : ∀ s' tk, St w c m own P s' → Q (.int n tk) s') : wpAny (model PySem.Challenge.rw_pq1024_01.row.prog w) c.A (getAttr (.ref x) (Str.ofString "symbol") ex) Q E s := by
  cases h with
  | glob h1 h2 => exact ga (pg_Global w _) (hh_Global w) (fi_Global_symbol w) S (hs _ h1) (hs _ h2) rfl rfl (fun s' S' => k s' _ S')
theorem at_setl_number {n : Int} {t : T} (S : St w c m own P s) (h : Nd w P₀ x (.setl n t)) (hs : ∀ p ∈ P₀, p ∈ P) (k : ∀ s' tk, St w c m own P s' → Q (.int n tk) s') : wpAny (model PySem.Challenge.rw_pq1024_01.row.prog w) c.A (getAttr (.ref x) (Str.ofString "number") ex) Q E s := by
  cases h with
  | setl h1 h2 h3 => exact ga (pg_SetLocal w _) (hh_SetLocal w) (fi_SetLocal_number w) S (hs _ h1) (hs _ h2) rfl rfl (fun s' S' => k s' _ S')
theorem at_setl_value {n : Int} {t : T} (S : St w c m own P s) (h : Nd w P₀ x (.setl n t)) (hs : ∀ p ∈ P₀, p ∈ P) (k : ∀ s' v, St w c m own P s' → Nd w P v t → Q (.ref v) s') : wpAny (model PySem.Challenge.rw_pq1024_01.row.prog w) c.A (getAttr (.ref x) (Str.ofString "value") ex) Q E s := by
  cases h with
  | setl h1 h2 h3 => exact ga (pg_SetLocal w _) (hh_SetLocal w) (fi_SetLocal_value w) S (hs _ h1) (hs _ h2) rfl rfl (fun s' S' => k s' _ S' (h3.mono hs))
theorem at_lam_label {l : Int} {ps : List Int} {t : T} (S : St w c m own P s) (h : Nd w P₀ x (.lam l ps t)) (hs : ∀ p ∈ P₀, p ∈ P) (k : ∀ s' tk, St w c m own P s' → Q (.int l tk) s') : wpAny (model PySem.Challenge.rw_pq1024_01.row.prog w) c.A (getAttr (.ref x) (Str.ofString "label") ex) Q E s := by
  cases h with
  | lam h1 h2 h3 h4 h5 => exact ga (pg_Lambda w _) (hh_Lambda w) (fi_Lambda_label w) S (hs _ h1) (hs _ h2) rfl rfl (fun s' S' => k s' _ S')
theorem at_lam_params {l : Int} {ps : List Int} {t : T} (S : St w c m own P s) (h : Nd w P₀ x (.lam l ps t)) (hs : ∀ p ∈ P₀, p ∈ P) (k : ∀ s' pl vs e, St w c m own P s' → (pl, listOf (List.toArray vs) e) ∈ P → IntsAre vs ps → Q (.ref pl) s') : wpAny (model PySem.Challenge.rw_pq1024_01.row.prog w) c.A (getAttr (.ref x) (Str.ofString "params") ex) Q E s := by
  cases h with
  | lam h1 h2 h3 h4 h5 => exact ga (pg_Lambda w _) (hh_Lambda w) (fi_Lambda_params w) S (hs _ h1) (hs _ h2) rfl rfl (fun s' S' => k s' _ _ _ S' (hs _ h3) h4)
theorem at_lam_rest {l : Int} {ps : List Int} {t : T} (S : St w c m own P s) (h : Nd w P₀ x (.lam l ps t)) (hs : ∀ p ∈ P₀, p ∈ P) (k : ∀ s' tk, St w c m own P s' → Q (.int (-1) tk) s') : wpAny (model PySem.Challenge.rw_pq1024_01.row.prog w) c.A (getAttr (.ref x) (Str.ofString "rest") ex) Q E s := by
  cases h with
  | lam h1 h2 h3 h4 h5 => exact ga (pg_Lambda w _) (hh_Lambda w) (fi_Lambda_rest w) S (hs _ h1) (hs _ h2) rfl rfl (fun s' S' => k s' _ S')
theorem at_lam_body {l : Int} {ps : List Int} {t : T} (S : St w c m own P s) (h : Nd w P₀ x (.lam l ps t)) (hs : ∀ p ∈ P₀, p ∈ P) (k : ∀ s' v, St w c m own P s' → Nd w P v t → Q (.ref v) s') : wpAny (model PySem.Challenge.rw_pq1024_01.row.prog w) c.A (getAttr (.ref x) (Str.ofString "body") ex) Q E s := by
  cases h with
  | lam h1 h2 h3 h4 h5 => exact ga (pg_Lambda w _) (hh_Lambda w) (fi_Lambda_body w) S (hs _ h1) (hs _ h2) rfl rfl (fun s' S' => k s' _ S' (h5.mono hs))
theorem at_call_operator {tf : T} {ts : List T} (S : St w c m own P s) (h : Nd w P₀ x (.call tf ts)) (hs : ∀ p ∈ P₀, p ∈ P) (k : ∀ s' v, St w c m own P s' → Nd w P v tf → Q (.ref v) s') : wpAny (model PySem.Challenge.rw_pq1024_01.row.prog w) c.A (getAttr (.ref x) (Str.ofString "operator") ex) Q E s := by
  cases h with
  | call h1 h2 h3 h4 h5 => exact ga (pg_Call w _) (hh_Call w) (fi_Call_operator w) S (hs _ h1) (hs _ h2) rfl rfl (fun s' S' => k s' _ S' (h4.mono hs))
theorem at_call_operands {tf : T} {ts : List T} (S : St w c m own P s) (h : Nd w P₀ x (.call tf ts)) (hs : ∀ p ∈ P₀, p ∈ P) (k : ∀ s' l vs e, St w c m own P s' → (l, listOf (List.toArray vs) e) ∈ P → Nds w P vs ts → Q (.ref l) s') : wpAny (model PySem.Challenge.rw_pq1024_01.row.prog w) c.A (getAttr (.ref x) (Str.ofString "operands") ex) Q E s := by
  cases h with
  | call h1 h2 h3 h4 h5 => exact ga (pg_Call w _) (hh_Call w) (fi_Call_operands w) S (hs _ h1) (hs _ h2) rfl rfl (fun s' S' => k s' _ _ _ S' (hs _ h3) (h5.mono hs))
theorem at_seq_items {ts : List T} (S : St w c m own P s) (h : Nd w P₀ x (.seq ts)) (hs : ∀ p ∈ P₀, p ∈ P) (k : ∀ s' l vs e, St w c m own P s' → (l, listOf (List.toArray vs) e) ∈ P → Nds w P vs ts → Q (.ref l) s') : wpAny (model PySem.Challenge.rw_pq1024_01.row.prog w) c.A (getAttr (.ref x) (Str.ofString "items") ex) Q E s := by
  cases h with
  | seq h1 h2 h3 h4 => exact ga (pg_Seq w _) (hh_Seq w) (fi_Seq_items w) S (hs _ h1) (hs _ h2) rfl rfl (fun s' S' => k s' _ _ _ S' (hs _ h3) (h4.mono hs))
theorem at_fix_numbers {ns : List Int} {ts : List T} {tb : T} (S : St w c m own P s) (h : Nd w P₀ x (.fix ns ts tb)) (hs : ∀ p ∈ P₀, p ∈ P) (k : ∀ s' l vs e, St w c m own P s' → (l, listOf (List.toArray vs) e) ∈ P → IntsAre vs ns → Q (.ref l) s') : wpAny (model PySem.Challenge.rw_pq1024_01.row.prog w) c.A (getAttr (.ref x) (Str.ofString "numbers") ex) Q E s := by
  cases h with
  | fix h1 h2 h3 h4 h5 h6 h7 => exact ga (pg_Fix w _) (hh_Fix w) (fi_Fix_numbers w) S (hs _ h1) (hs _ h2) rfl rfl (fun s' S' => k s' _ _ _ S' (hs _ h3) h4)
theorem at_fix_lambdas {ns : List Int} {ts : List T} {tb : T} (S : St w c m own P s) (h : Nd w P₀ x (.fix ns ts tb)) (hs : ∀ p ∈ P₀, p ∈ P) (k : ∀ s' l vs e, St w c m own P s' → (l, listOf (List.toArray vs) e) ∈ P → Nds w P vs ts → Q (.ref l) s') : wpAny (model PySem.Challenge.rw_pq1024_01.row.prog w) c.A (getAttr (.ref x) (Str.ofString "lambdas") ex) Q E s := by
  cases h with
  | fix h1 h2 h3 h4 h5 h6 h7 => exact ga (pg_Fix w _) (hh_Fix w) (fi_Fix_lambdas w) S (hs _ h1) (hs _ h2) rfl rfl (fun s' S' => k s' _ _ _ S' (hs _ h5) (h6.mono hs))
theorem at_fix_body {ns : List Int} {ts : List T} {tb : T} (S : St w c m own P s) (h : Nd w P₀ x (.fix ns ts tb)) (hs : ∀ p ∈ P₀, p ∈ P) (k : ∀ s' v, St w c m own P s' → Nd w P v tb → Q (.ref v) s') : wpAny (model PySem.Challenge.rw_pq1024_01.row.prog w) c.A (getAttr (.ref x) (Str.ofString "body") ex) Q E s := by
  cases h with
  | fix h1 h2 h3 h4 h5 h6 h7 => exact ga (pg_Fix w _) (hh_Fix w) (fi_Fix_body w) S (hs _ h1) (hs _ h2) rfl rfl (fun s' S' => k s' _ S' (h7.mono hs))
end
end Mine
end
section
namespace Mine
section
variable {w : World} {c : Cx} {m : Str → Option Value} {own P : Led} {s : Shared} {E : Value → Shared → Prop}
theorem St.isNew (S : St w c m own P s) {d : Addr} (h : d < s.heap.objs.size → False) : ∀ p ∈ own ++ P, p.1 ≠ d := fun p hp e => h (e ▸ Heap.lt_size (S.N p hp).1)
theorem sa {x C dx : Addr} {es : List DictEntry} {n : Nat} {name : String} {v : Value} {Q : Unit → Shared → Prop}
    (hs : findIn (hd.heap_39 w.params) (.ref C) "__setattr__" = some (some (.builtin "object.__setattr__"))) (hp : plainOver (hd.heap_39 w.params) C = true) (ht : takerIn (hd.heap_39 w.params) C (Str.ofString name) = some none) (hh : hasDictIn (hd.heap_39 w.params) C = true)
    (S : St w c m ((dx, dictOf es n) :: own) P s) (hx : (x, instObj C dx) ∈ P) (hl : (getL (Str.ofString name) es).isSome = true) (hput : ∀ hsh k v, putL (Str.ofString name) hsh k v es = es ++ [⟨hsh, k, v⟩]) (hn : putN (Str.ofString name) es n = n + 1) (hz : es.length ≤ 900)
    (h : ∀ s' tk, St w c m ((dx, dictOf (es ++ [ent w name tk v]) (n + 1)) :: own) P s' → Q () s') : wpAny (model PySem.Challenge.rw_pq1024_01.row.prog w) c.A (setAttr (.ref x) (Str.ofString name) v) Q E s := by
  refine set_dict (news := (dx, dictOf es n) :: (own ++ P)) (news' := (dx, dictOf (es ++ [ent w name (s.toks + 1) v]) (n + 1)) :: (own ++ P)) S.F S.X S.N (I := ⟨S.inP hx, rfl, rfl, S.inO (.head _)⟩) rfl hs hp ht hh hl (by rw [hput, hn]) (.head fun p hp => ?_) (by rw [List.length_append]; exact Nat.le_trans (Nat.add_le_add_right hz _) (show 900 + 1 ≤ 1000 by decide)) fun h' F' N' => h _ _ (S.same F' N' (fun q hq p hp => ?_) S.nd)
  · rcases List.mem_append.mp hp with hp | hp
    · exact fun e => (List.nodup_cons.mp S.nd).1 (List.mem_map.mpr ⟨p, hp, e⟩)
    · exact S.ap _ (.head _) p hp
  · rcases List.mem_cons.mp hq with rfl | hq
    · exact S.ap _ (List.mem_cons_self (a := (dx, dictOf es n))) p hp
    · exact S.ap q (.tail _ hq) p hp
theorem under_env (A : Around) (C : Addr) (vs : List Value) : (A.under (.builtin "type.__call__" ⟨.ref C :: vs, []⟩)).frames = A.frames := rfl
theorem make {C fI : Addr} {args : List Value} {Q : Value → Shared → Prop} {name qual : Str} {params : Arguments} {body : List Stmt} {ns : List (Str × NameKind)} {mo : List (Str × Const)} {dV kV doc pm cdv ct oc : Value} {an od : Option Addr} {osl : Array (Option Value)} {K : Frag} {Out : Led → Led → Value → Prop}
    (hK : K = hd.heap_39 w.params) (hm : makesIn K C = true) (hi : findIn K (.ref C) "__init__" = some (some (.ref fI))) (hf : isFn K (.ref fI) = true)
    (ho : K.lookup fI = some ⟨oc, od, .func (fnOf name qual params body (fnSc ns mo) dV kV doc pm an cdv ct), osl⟩) (hcd : codeIn K cdv qual = true)
    (S : St w c m own P s) (hroom : c.A.depth + 1 < recursionLimit)
    (hbind : ∀ x (s : Shared), BindsTo s (fnOf name qual params body (fnSc ns mo) dV kV doc pm an cdv ct) ⟨.ref x :: args, []⟩ ((params.args.map (·.arg)).zip (.ref x :: args))) (hlen : (params.args.map (·.arg)).length = args.length + 1) (hgood : goodFn ns (params.args.map (·.arg)) = true)
    (h : ∀ c' s' x dx, goodNs ns = true → c'.A.depth = c.A.depth + 2 → c'.A.units ≤ c.A.units + 8 → St w c' (asg ns (some (.ref x) :: args.map some)) [(dx, dictOf [] 0)] ((x, instObj C dx) :: P) s' →
      wpAny (model PySem.Challenge.rw_pq1024_01.row.prog w) c'.A (execs body (envX qual (fnSc ns mo) c'.L fI cdv [])) (fun fl s'' => Ends w c' ((x, instObj C dx) :: P) (fun cs P' r => r = .none ∧ cs.map (·.1) = [dx] ∧ Out cs P' (.ref x)) (match fl with | .ret v => v | _ => .none) s'') (fun _ _ => False) s')
    (ret : ∀ x cells P' s', St w c m (cells ++ own) P' s' → (∀ p ∈ P, p ∈ P') → Out cells P' (.ref x) → Q (.ref x) s') :
    wpAny (model PySem.Challenge.rw_pq1024_01.row.prog w) c.A (call (.ref C) args) Q E s := by
  subst hK
  refine call_cls S.F S.X S.N hm hi hf fun x dx h' F' N' l1 l2 => ?_
  let c2 : Cx := { c with A := c.A.under (.builtin "type.__call__" ⟨.ref C :: args, []⟩) }
  have S2 : St w c2 m ([(dx, dictOf [] 0)] ++ own) ((x, instObj C dx) :: P) { s with heap := h' } := by
    refine ⟨F', fun p hp => N' p ?_, fun q hq p hp => ?_, ?_, S.X, S.T, ⟨S.B.stack, S.B.stays, S.B.frames⟩, S.hh, S.fr, S.eg, S.ed, S.eo⟩
    · rcases List.mem_append.mp hp with hp | hp
      · rcases List.mem_cons.mp hp with rfl | hp
        · exact .tail _ (.head _)
        · exact .tail _ (.tail _ (List.mem_append_left _ hp))
      · rcases List.mem_cons.mp hp with rfl | hp
        · exact .head _
        · exact .tail _ (.tail _ (List.mem_append_right _ hp))
    · rcases List.mem_cons.mp hp with rfl | hp
      · rcases List.mem_cons.mp hq with rfl | hq
        · exact fun e => Nat.lt_irrefl dx (by have e' : x = dx := e; rw [e'] at l2; exact l2)
        · have := Nat.lt_trans (l1 q (List.mem_append_left _ hq)) l2
          exact fun e => by have e' : x = q.1 := e; rw [← e'] at this; exact Nat.lt_irrefl _ this
      · rcases List.mem_cons.mp hq with rfl | hq
        · have := l1 p (List.mem_append_right _ hp)
          exact fun e => by have e' : p.1 = dx := e; rw [e'] at this; exact Nat.lt_irrefl _ this
        · exact S.ap q hq p hp
    · refine List.nodup_cons.mpr ⟨fun hm => ?_, S.nd⟩
      obtain ⟨q, hq, e⟩ := List.mem_map.mp hm
      have := l1 q (List.mem_append_left _ hq)
      rw [e] at this
      exact Nat.lt_irrefl _ this
  have key := enterM (c := c2) (m := m) (cells := [(dx, dictOf [] 0)]) (rest := own) (P := (x, instObj C dx) :: P) (s := { s with heap := h' }) (Q := fun v s' => v = .none ∧ Q (.ref x) s') (E := E) (vs := .ref x :: args) (Out := fun cs P' r => r = .none ∧ Out cs P' (.ref x)) rfl S2 ho hcd hroom (hbind x _) (by rw [hlen]; rfl) hgood
    (fun c' s' h0 h1 h2 S' => wpAny_mono (h c' s' x dx h0 (by rw [h1]; rfl) (by rw [h2]; have : c2.A.units = c.A.units + 1 := units_under_make _ _ _; omega) S') (fun fl s'' hfin => ?_) fun _ _ e => e) (fun r cells' P' s' S' hc hs ho => ?_)
  · refine codeAny_mono key fun r s' z => ?_
    rcases r with e | (v | _ | _ | _) <;> first | exact z | exact z.elim
  · obtain ⟨m', cells', own', P', S3, hs, hr, hc, ho⟩ := hfin
    exact ⟨m', cells', own', P', S3, hs, hc, hr, ho⟩
  · exact ⟨ho.1, ret x cells' P' s' ⟨S'.F, S'.N, S'.ap, S'.nd, S'.X, S'.T, ⟨S.B.stack, S.B.stays, S.B.frames⟩, S.hh, S.fr, S'.eg, S'.ed, S'.eo⟩ (fun p hp => hs p (.tail _ hp)) ho.2⟩
end
end Mine
end
section
namespace Mine
local macro_rules | `(tactic| walk_at "go1") => `(tactic| with_reducible first
  | refine wpAny_execs_cons ?_
  | refine wpAny_execs_nil ?_
  | (refine ev_loc (by assumption) (by assumption) ?_; walk_at "locv")
  | refine plainObj_wpAny_Assign_Attribute ?_ (by k_dflt rfl)
  )
local macro_rules | `(tactic| walk_at "locv") => `(tactic| with_reducible first | refine LocQ.here ?_ | (refine LocQ.there ?_; walk_at "locv"))
local macro_rules | `(tactic| walk_at "go") => `(tactic| repeat walk_at "go1")
theorem tk_Const_value (w : World) : takerIn (hd.heap_39 w.params) 66 (Str.ofString "value") = some none := by kernel_rfl
theorem sat_Const (w : World) : findIn (hd.heap_39 w.params) (.ref 66) "__setattr__" = some (some (.builtin "object.__setattr__")) := by kernel_rfl
theorem po_Const (w : World) : plainOver (hd.heap_39 w.params) 66 = true := by kernel_rfl
theorem c_Const {w : World} {P : Led} {v0 : Value} : Pure w 3 P (call (.ref 66) [v0]) fun P' r => ∃ x d t0, r = .ref x ∧ (x, instObj 66 d) ∈ P' ∧ (d, dictOf [ent w "value" t0 v0] 1) ∈ P' := by
  intro c m own s Q E S hdp hu ret
  have X := S.X
  refine make (Out := fun cells P' r => ∃ x d t0, r = .ref x ∧ (x, instObj 66 d) ∈ P' ∧ cells = [(d, dictOf [ent w "value" t0 v0] 1)]) (K := hd.heap_39 w.params) rfl (by k_is) (by k_is) (by k_is) (by k_is) (by k_is) S (by omega) (by exact fun x s => BindsTo.of_eq rfl) (by exact rfl) (by kernel_rfl) ?_ ?kr
  case kr =>
    rintro x cells P' s' S' hs ⟨y, d, t0, e, hm, rfl⟩
    cases e
    exact ret _ _ _ (St.settle S') (fun p hp => .tail _ (hs p hp)) ⟨_, _, _, rfl, .tail _ hm, .head _⟩
  intro c' s' x dx gN _ _ S'
  dsimp only [List.map] at S'
  walk_at "go"
  refine sa (sat_Const w) (po_Const w) (tk_Const_value w) (hh_Const w) (by assumption) (.head _) rfl (fun _ _ _ => rfl) rfl (Nat.le_of_ble_eq_true rfl) ?_
  intro s0 tk0 S0
  dsimp only
  walk_at "go"
  exact ⟨_, _, [], _, S0, fun p hp => hp, rfl, rfl, _, _, _, rfl, .head _, rfl⟩
theorem tk_Local_number (w : World) : takerIn (hd.heap_39 w.params) 85 (Str.ofString "number") = some none := by kernel_rfl
theorem sat_Local (w : World) : findIn (hd.heap_39 w.params) (.ref 85) "__setattr__" = some (some (.builtin "object.__setattr__")) := by kernel_rfl
theorem po_Local (w : World) : plainOver (hd.heap_39 w.params) 85 = true := by kernel_rfl
theorem c_Local {w : World} {P : Led} {v0 : Value} : Pure w 3 P (call (.ref 85) [v0]) fun P' r => ∃ x d t0, r = .ref x ∧ (x, instObj 85 d) ∈ P' ∧ (d, dictOf [ent w "number" t0 v0] 1) ∈ P' := by
  intro c m own s Q E S hdp hu ret
  have X := S.X
  refine make (Out := fun cells P' r => ∃ x d t0, r = .ref x ∧ (x, instObj 85 d) ∈ P' ∧ cells = [(d, dictOf [ent w "number" t0 v0] 1)]) (K := hd.heap_39 w.params) rfl (by k_is) (by k_is) (by k_is) (by k_is) (by k_is) S (by omega) (by exact fun x s => BindsTo.of_eq rfl) (by exact rfl) (by kernel_rfl) ?_ ?kr
  case kr =>
    rintro x cells P' s' S' hs ⟨y, d, t0, e, hm, rfl⟩
    cases e
    exact ret _ _ _ (St.settle S') (fun p hp => .tail _ (hs p hp)) ⟨_, _, _, rfl, .tail _ hm, .head _⟩
  intro c' s' x dx gN _ _ S'
  dsimp only [List.map] at S'
  walk_at "go"
  refine sa (sat_Local w) (po_Local w) (tk_Local_number w) (hh_Local w) (by assumption) (.head _) rfl (fun _ _ _ => rfl) rfl (Nat.le_of_ble_eq_true rfl) ?_
  intro s0 tk0 S0
  dsimp only
  walk_at "go"
  exact ⟨_, _, [], _, S0, fun p hp => hp, rfl, rfl, _, _, _, rfl, .head _, rfl⟩
theorem tk_Global_symbol (w : World) : takerIn (hd.heap_39 w.params) 104 (Str.ofString "symbol") = some none := by kernel_rfl
theorem sat_Global (w : World) : findIn (hd.heap_39 w.params) (.ref 104) "__setattr__" = some (some (.builtin "object.__setattr__")) := by kernel_rfl
theorem po_Global (w : World) : plainOver (hd.heap_39 w.params) 104 = true := by kernel_rfl
theorem c_Global {w : World} {P : Led} {v0 : Value} : Pure w 3 P (call (.ref 104) [v0]) fun P' r => ∃ x d t0, r = .ref x ∧ (x, instObj 104 d) ∈ P' ∧ (d, dictOf [ent w "symbol" t0 v0] 1) ∈ P' := by
  intro c m own s Q E S hdp hu ret
  have X := S.X
  refine make (Out := fun cells P' r => ∃ x d t0, r = .ref x ∧ (x, instObj 104 d) ∈ P' ∧ cells = [(d, dictOf [ent w "symbol" t0 v0] 1)]) (K := hd.heap_39 w.params) rfl (by k_is) (by k_is) (by k_is) (by k_is) (by k_is) S (by omega) (by exact fun x s => BindsTo.of_eq rfl) (by exact rfl) (by kernel_rfl) ?_ ?kr
  case kr =>
    rintro x cells P' s' S' hs ⟨y, d, t0, e, hm, rfl⟩
    cases e
    exact ret _ _ _ (St.settle S') (fun p hp => .tail _ (hs p hp)) ⟨_, _, _, rfl, .tail _ hm, .head _⟩
  intro c' s' x dx gN _ _ S'
  dsimp only [List.map] at S'
  walk_at "go"
  refine sa (sat_Global w) (po_Global w) (tk_Global_symbol w) (hh_Global w) (by assumption) (.head _) rfl (fun _ _ _ => rfl) rfl (Nat.le_of_ble_eq_true rfl) ?_
  intro s0 tk0 S0
  dsimp only
  walk_at "go"
  exact ⟨_, _, [], _, S0, fun p hp => hp, rfl, rfl, _, _, _, rfl, .head _, rfl⟩
theorem tk_SetLocal_number (w : World) : takerIn (hd.heap_39 w.params) 137 (Str.ofString "number") = some none := by kernel_rfl
theorem tk_SetLocal_value (w : World) : takerIn (hd.heap_39 w.params) 137 (Str.ofString "value") = some none := by kernel_rfl
theorem sat_SetLocal (w : World) : findIn (hd.heap_39 w.params) (.ref 137) "__setattr__" = some (some (.builtin "object.__setattr__")) := by kernel_rfl
theorem po_SetLocal (w : World) : plainOver (hd.heap_39 w.params) 137 = true := by kernel_rfl
theorem c_SetLocal {w : World} {P : Led} {v0 v1 : Value} : Pure w 3 P (call (.ref 137) [v0, v1]) fun P' r => ∃ x d t0 t1, r = .ref x ∧ (x, instObj 137 d) ∈ P' ∧ (d, dictOf [ent w "number" t0 v0, ent w "value" t1 v1] 2) ∈ P' := by
  intro c m own s Q E S hdp hu ret
  have X := S.X
  refine make (Out := fun cells P' r => ∃ x d t0 t1, r = .ref x ∧ (x, instObj 137 d) ∈ P' ∧ cells = [(d, dictOf [ent w "number" t0 v0, ent w "value" t1 v1] 2)]) (K := hd.heap_39 w.params) rfl (by k_is) (by k_is) (by k_is) (by k_is) (by k_is) S (by omega) (by exact fun x s => BindsTo.of_eq rfl) (by exact rfl) (by kernel_rfl) ?_ ?kr
  case kr =>
    rintro x cells P' s' S' hs ⟨y, d, t0, t1, e, hm, rfl⟩
    cases e
    exact ret _ _ _ (St.settle S') (fun p hp => .tail _ (hs p hp)) ⟨_, _, _, _, rfl, .tail _ hm, .head _⟩
  intro c' s' x dx gN _ _ S'
  dsimp only [List.map] at S'
  walk_at "go"
  refine sa (sat_SetLocal w) (po_SetLocal w) (tk_SetLocal_number w) (hh_SetLocal w) (by assumption) (.head _) rfl (fun _ _ _ => rfl) rfl (Nat.le_of_ble_eq_true rfl) ?_
  intro s0 tk0 S0
  dsimp only
  walk_at "go"
  refine sa (sat_SetLocal w) (po_SetLocal w) (tk_SetLocal_value w) (hh_SetLocal w) (by assumption) (.head _) rfl (fun _ _ _ => rfl) rfl (Nat.le_of_ble_eq_true rfl) ?_
  intro s1 tk1 S1
  dsimp only
  walk_at "go"
  exact ⟨_, _, [], _, S1, fun p hp => hp, rfl, rfl, _, _, _, _, rfl, .head _, rfl⟩
theorem tk_Lambda_label (w : World) : takerIn (hd.heap_39 w.params) 184 (Str.ofString "label") = some none := by kernel_rfl
theorem tk_Lambda_params (w : World) : takerIn (hd.heap_39 w.params) 184 (Str.ofString "params") = some none := by kernel_rfl
theorem tk_Lambda_rest (w : World) : takerIn (hd.heap_39 w.params) 184 (Str.ofString "rest") = some none := by kernel_rfl
theorem tk_Lambda_body (w : World) : takerIn (hd.heap_39 w.params) 184 (Str.ofString "body") = some none := by kernel_rfl
theorem sat_Lambda (w : World) : findIn (hd.heap_39 w.params) (.ref 184) "__setattr__" = some (some (.builtin "object.__setattr__")) := by kernel_rfl
theorem po_Lambda (w : World) : plainOver (hd.heap_39 w.params) 184 = true := by kernel_rfl
theorem c_Lambda {w : World} {P : Led} {v0 v1 v2 v3 : Value} : Pure w 3 P (call (.ref 184) [v0, v1, v2, v3]) fun P' r => ∃ x d t0 t1 t2 t3, r = .ref x ∧ (x, instObj 184 d) ∈ P' ∧ (d, dictOf [ent w "label" t0 v0, ent w "params" t1 v1, ent w "rest" t2 v2, ent w "body" t3 v3] 4) ∈ P' := by
  intro c m own s Q E S hdp hu ret
  have X := S.X
  refine make (Out := fun cells P' r => ∃ x d t0 t1 t2 t3, r = .ref x ∧ (x, instObj 184 d) ∈ P' ∧ cells = [(d, dictOf [ent w "label" t0 v0, ent w "params" t1 v1, ent w "rest" t2 v2, ent w "body" t3 v3] 4)]) (K := hd.heap_39 w.params) rfl (by k_is) (by k_is) (by k_is) (by k_is) (by k_is) S (by omega) (by exact fun x s => BindsTo.of_eq rfl) (by exact rfl) (by kernel_rfl) ?_ ?kr
  case kr =>
    rintro x cells P' s' S' hs ⟨y, d, t0, t1, t2, t3, e, hm, rfl⟩
    cases e
    exact ret _ _ _ (St.settle S') (fun p hp => .tail _ (hs p hp)) ⟨_, _, _, _, _, _, rfl, .tail _ hm, .head _⟩
  intro c' s' x dx gN _ _ S'
  dsimp only [List.map] at S'
  walk_at "go"
  refine sa (sat_Lambda w) (po_Lambda w) (tk_Lambda_label w) (hh_Lambda w) (by assumption) (.head _) rfl (fun _ _ _ => rfl) rfl (Nat.le_of_ble_eq_true rfl) ?_
  intro s0 tk0 S0
  dsimp only
  walk_at "go"
  refine sa (sat_Lambda w) (po_Lambda w) (tk_Lambda_params w) (hh_Lambda w) (by assumption) (.head _) rfl (fun _ _ _ => rfl) rfl (Nat.le_of_ble_eq_true rfl) ?_
  intro s1 tk1 S1
  dsimp only
  walk_at "go"
  refine sa (sat_Lambda w) (po_Lambda w) (tk_Lambda_rest w) (hh_Lambda w) (by assumption) (.head _) rfl (fun _ _ _ => rfl) rfl (Nat.le_of_ble_eq_true rfl) ?_
  intro s2 tk2 S2
  dsimp only
  walk_at "go"
  refine sa (sat_Lambda w) (po_Lambda w) (tk_Lambda_body w) (hh_Lambda w) (by assumption) (.head _) rfl (fun _ _ _ => rfl) rfl (Nat.le_of_ble_eq_true rfl) ?_
  intro s3 tk3 S3
  dsimp only
  walk_at "go"
  exact ⟨_, _, [], _, S3, fun p hp => hp, rfl, rfl, _, _, _, _, _, _, rfl, .head _, rfl⟩
theorem tk_Call_operator (w : World) : takerIn (hd.heap_39 w.params) 217 (Str.ofString "operator") = some none := by kernel_rfl
theorem tk_Call_operands (w : World) : takerIn (hd.heap_39 w.params) 217 (Str.ofString "operands") = some none := by kernel_rfl
theorem sat_Call (w : World) : findIn (hd.heap_39 w.params) (.ref 217) "__setattr__" = some (some (.builtin "object.__setattr__")) := by kernel_rfl
theorem po_Call (w : World) : plainOver (hd.heap_39 w.params) 217 = true := by kernel_rfl
theorem c_Call {w : World} {P : Led} {v0 v1 : Value} : Pure w 3 P (call (.ref 217) [v0, v1]) fun P' r => ∃ x d t0 t1, r = .ref x ∧ (x, instObj 217 d) ∈ P' ∧ (d, dictOf [ent w "operator" t0 v0, ent w "operands" t1 v1] 2) ∈ P' := by
  intro c m own s Q E S hdp hu ret
  have X := S.X
  refine make (Out := fun cells P' r => ∃ x d t0 t1, r = .ref x ∧ (x, instObj 217 d) ∈ P' ∧ cells = [(d, dictOf [ent w "operator" t0 v0, ent w "operands" t1 v1] 2)]) (K := hd.heap_39 w.params) rfl (by k_is) (by k_is) (by k_is) (by k_is) (by k_is) S (by omega) (by exact fun x s => BindsTo.of_eq rfl) (by exact rfl) (by kernel_rfl) ?_ ?kr
  case kr =>
    rintro x cells P' s' S' hs ⟨y, d, t0, t1, e, hm, rfl⟩
    cases e
    exact ret _ _ _ (St.settle S') (fun p hp => .tail _ (hs p hp)) ⟨_, _, _, _, rfl, .tail _ hm, .head _⟩
  intro c' s' x dx gN _ _ S'
  dsimp only [List.map] at S'
  walk_at "go"
  refine sa (sat_Call w) (po_Call w) (tk_Call_operator w) (hh_Call w) (by assumption) (.head _) rfl (fun _ _ _ => rfl) rfl (Nat.le_of_ble_eq_true rfl) ?_
  intro s0 tk0 S0
  dsimp only
  walk_at "go"
  refine sa (sat_Call w) (po_Call w) (tk_Call_operands w) (hh_Call w) (by assumption) (.head _) rfl (fun _ _ _ => rfl) rfl (Nat.le_of_ble_eq_true rfl) ?_
  intro s1 tk1 S1
  dsimp only
  walk_at "go"
  exact ⟨_, _, [], _, S1, fun p hp => hp, rfl, rfl, _, _, _, _, rfl, .head _, rfl⟩
theorem tk_Seq_items (w : World) : takerIn (hd.heap_39 w.params) 250 (Str.ofString "items") = some none := by kernel_rfl
theorem sat_Seq (w : World) : findIn (hd.heap_39 w.params) (.ref 250) "__setattr__" = some (some (.builtin "object.__setattr__")) := by kernel_rfl
theorem po_Seq (w : World) : plainOver (hd.heap_39 w.params) 250 = true := by kernel_rfl
theorem c_Seq {w : World} {P : Led} {v0 : Value} : Pure w 3 P (call (.ref 250) [v0]) fun P' r => ∃ x d t0, r = .ref x ∧ (x, instObj 250 d) ∈ P' ∧ (d, dictOf [ent w "items" t0 v0] 1) ∈ P' := by
  intro c m own s Q E S hdp hu ret
  have X := S.X
  refine make (Out := fun cells P' r => ∃ x d t0, r = .ref x ∧ (x, instObj 250 d) ∈ P' ∧ cells = [(d, dictOf [ent w "items" t0 v0] 1)]) (K := hd.heap_39 w.params) rfl (by k_is) (by k_is) (by k_is) (by k_is) (by k_is) S (by omega) (by exact fun x s => BindsTo.of_eq rfl) (by exact rfl) (by kernel_rfl) ?_ ?kr
  case kr =>
    rintro x cells P' s' S' hs ⟨y, d, t0, e, hm, rfl⟩
    cases e
    exact ret _ _ _ (St.settle S') (fun p hp => .tail _ (hs p hp)) ⟨_, _, _, rfl, .tail _ hm, .head _⟩
  intro c' s' x dx gN _ _ S'
  dsimp only [List.map] at S'
  walk_at "go"
  refine sa (sat_Seq w) (po_Seq w) (tk_Seq_items w) (hh_Seq w) (by assumption) (.head _) rfl (fun _ _ _ => rfl) rfl (Nat.le_of_ble_eq_true rfl) ?_
  intro s0 tk0 S0
  dsimp only
  walk_at "go"
  exact ⟨_, _, [], _, S0, fun p hp => hp, rfl, rfl, _, _, _, rfl, .head _, rfl⟩
theorem tk_Fix_numbers (w : World) : takerIn (hd.heap_39 w.params) 283 (Str.ofString "numbers") = some none := by kernel_rfl
theorem tk_Fix_lambdas (w : World) : takerIn (hd.heap_39 w.params) 283 (Str.ofString "lambdas") = some none := by kernel_rfl
theorem tk_Fix_body (w : World) : takerIn (hd.heap_39 w.params) 283 (Str.ofString "body") = some none := by kernel_rfl
theorem sat_Fix (w : World) : findIn (hd.heap_39 w.params) (.ref 283) "__setattr__" = some (some (.builtin "object.__setattr__")) := by kernel_rfl
theorem po_Fix (w : World) : plainOver (hd.heap_39 w.params) 283 = true := by kernel_rfl
theorem c_Fix {w : World} {P : Led} {v0 v1 v2 : Value} : Pure w 3 P (call (.ref 283) [v0, v1, v2]) fun P' r => ∃ x d t0 t1 t2, r = .ref x ∧ (x, instObj 283 d) ∈ P' ∧ (d, dictOf [ent w "numbers" t0 v0, ent w "lambdas" t1 v1, ent w "body" t2 v2] 3) ∈ P' := by
  intro c m own s Q E S hdp hu ret
  have X := S.X
  refine make (Out := fun cells P' r => ∃ x d t0 t1 t2, r = .ref x ∧ (x, instObj 283 d) ∈ P' ∧ cells = [(d, dictOf [ent w "numbers" t0 v0, ent w "lambdas" t1 v1, ent w "body" t2 v2] 3)]) (K := hd.heap_39 w.params) rfl (by k_is) (by k_is) (by k_is) (by k_is) (by k_is) S (by omega) (by exact fun x s => BindsTo.of_eq rfl) (by exact rfl) (by kernel_rfl) ?_ ?kr
  case kr =>
    rintro x cells P' s' S' hs ⟨y, d, t0, t1, t2, e, hm, rfl⟩
    cases e
    exact ret _ _ _ (St.settle S') (fun p hp => .tail _ (hs p hp)) ⟨_, _, _, _, _, rfl, .tail _ hm, .head _⟩
  intro c' s' x dx gN _ _ S'
  dsimp only [List.map] at S'
  walk_at "go"
  refine sa (sat_Fix w) (po_Fix w) (tk_Fix_numbers w) (hh_Fix w) (by assumption) (.head _) rfl (fun _ _ _ => rfl) rfl (Nat.le_of_ble_eq_true rfl) ?_
  intro s0 tk0 S0
  dsimp only
  walk_at "go"
  refine sa (sat_Fix w) (po_Fix w) (tk_Fix_lambdas w) (hh_Fix w) (by assumption) (.head _) rfl (fun _ _ _ => rfl) rfl (Nat.le_of_ble_eq_true rfl) ?_
  intro s1 tk1 S1
  dsimp only
  walk_at "go"
  refine sa (sat_Fix w) (po_Fix w) (tk_Fix_body w) (hh_Fix w) (by assumption) (.head _) rfl (fun _ _ _ => rfl) rfl (Nat.le_of_ble_eq_true rfl) ?_
  intro s2 tk2 S2
  dsimp only
  walk_at "go"
  exact ⟨_, _, [], _, S2, fun p hp => hp, rfl, rfl, _, _, _, _, _, rfl, .head _, rfl⟩
end Mine
end
section
namespace Mine
section
variable {w : World} {c : Cx} {m : Str → Option Value} {own P P₀ : Led} {s : Shared} {E : Value → Shared → Prop}
theorem St.addP (S : St w c m own P s) {D : Addr} {o : Obj} {h' : Heap} {tk : Nat} (F' : Fr c.g c.L h' m) (N' : News c.g c.L h' ((D, o) :: (own ++ P))) (lt : ∀ p ∈ own ++ P, p.1 < D) : St w c m own ((D, o) :: P) { s with heap := h', toks := tk } :=
  S.same F' (fun p hp => N' p (by
    rcases List.mem_append.mp hp with hp | hp
    · exact .tail _ (List.mem_append_left _ hp)
    · rcases List.mem_cons.mp hp with rfl | hp
      · exact .head _
      · exact .tail _ (List.mem_append_right _ hp))) (fun q hq p hp => by
    rcases List.mem_cons.mp hp with rfl | hp
    · exact fun e => by have := lt q (List.mem_append_left _ hq); rw [← e] at this; exact Nat.lt_irrefl _ this
    · exact S.ap q hq p hp) S.nd
theorem St.addO (S : St w c m own P s) {D : Addr} {o : Obj} {h' : Heap} {tk : Nat} (F' : Fr c.g c.L h' m) (N' : News c.g c.L h' ((D, o) :: (own ++ P))) (lt : ∀ p ∈ own ++ P, p.1 < D) : St w c m ((D, o) :: own) P { s with heap := h', toks := tk } :=
  S.same F' N' (fun q hq p hp => by
    rcases List.mem_cons.mp hq with rfl | hq
    · exact fun e => by have := lt p (List.mem_append_right _ hp); rw [e] at this; exact Nat.lt_irrefl _ this
    · exact S.ap q hq p hp) (by
    refine List.nodup_cons.mpr ⟨fun hm => ?_, S.nd⟩
    obtain ⟨q, hq, e⟩ := List.mem_map.mp hm
    have := lt q (List.mem_append_left _ hq)
    rw [e] at this
    exact Nat.lt_irrefl _ this)
theorem St.setO (S : St w c m own P s) {d : Addr} {o o' : Obj} {rest : Led} (ho : own = (d, o) :: rest) {h' : Heap} {tk : Nat} {m' : Str → Option Value} (F' : Fr c.g c.L h' m') (N' : News c.g c.L h' ((d, o') :: (rest ++ P))) : St w c m' ((d, o') :: rest) P { s with heap := h', toks := tk } := by
  subst ho
  exact S.same F' N' (fun q hq p hp => by
    rcases List.mem_cons.mp hq with rfl | hq
    · exact S.ap _ (List.mem_cons_self (a := (d, o))) p hp
    · exact S.ap q (.tail _ hq) p hp) S.nd
theorem St.isListP (S : St w c m own P s) {l : Addr} {its : Array Value} {n : Nat} (h : (l, listOf its n) ∈ P) : s.heap.IsList l its := S.N.isList (List.mem_append_right _ h)
theorem St.isListO (S : St w c m own P s) {l : Addr} {its : Array Value} {n : Nat} (h : (l, listOf its n) ∈ own) : s.heap.IsList l its := S.N.isList (List.mem_append_left _ h)
theorem St.upd (S : St w c m own P s) {d : Addr} {o o' : Obj} {rest : Led} (ho : own = (d, o) :: rest) : Upd d o o' (own ++ P) ((d, o') :: (rest ++ P)) := by
  subst ho
  refine .head fun p hp => ?_
  rcases List.mem_append.mp hp with hp | hp
  · exact fun e => (List.nodup_cons.mp S.nd).1 (List.mem_map.mpr ⟨p, hp, e⟩)
  · exact S.ap _ (.head _) p hp

theorem callT {cn : Str} {ns : List (Str × NameKind)} {mo : List (Str × Const)} {a : Addr} {ccd : Value} {cl : List (Str × Addr)} {x : Str} {px pos : Pos} {T : String} {e1 : Expr} {Q : Value → Shared → Prop} (S : St w c m own P s) (g : goodNs ns = true) (e : nsIn (hd.heap_39 w.params) mainGlobals x = some none) (hv : bootBuiltins x = some (.type T)) (hn : x ≠ "__name__") (hx : (x, NameKind.globalImplicit) ∈ ns)
    (h : wpAny (model PySem.Challenge.rw_pq1024_01.row.prog w) c.A (eval e1 (envX cn (fnSc ns mo) c.L a ccd cl)) (fun v1 s1 => wpAny (model PySem.Challenge.rw_pq1024_01.row.prog w) c.A (call (.type T) [v1]) Q E s1) E s)
    (he1 : starEach [e1] (envX cn (fnSc ns mo) c.L a ccd cl) = [(false, eval e1 (envX cn (fnSc ns mo) c.L a ccd cl))] := by rfl) :
    wpAny (model PySem.Challenge.rw_pq1024_01.row.prog w) c.A (eval (.Call (.Name x px) [e1] [] pos) (envX cn (fnSc ns mo) c.L a ccd cl)) Q E s :=
  Call_ (ev_bi S g e hv hn hx (PyProof.Rows.callWith_type1 (args_cons (wpAny_mono h (fun v s1 h1 => args_nil h1) fun _ _ e => e) he1) he1 rfl))
theorem callB1 {cn : Str} {ns : List (Str × NameKind)} {mo : List (Str × Const)} {a : Addr} {ccd : Value} {cl : List (Str × Addr)} {x : Str} {px pos : Pos} {T : String} {e1 : Expr} {Q : Value → Shared → Prop} (S : St w c m own P s) (g : goodNs ns = true) (e : nsIn (hd.heap_39 w.params) mainGlobals x = some none) (hv : bootBuiltins x = some (.builtin T)) (hn : x ≠ "__name__") (hx : (x, NameKind.globalImplicit) ∈ ns)
    (h : wpAny (model PySem.Challenge.rw_pq1024_01.row.prog w) c.A (eval e1 (envX cn (fnSc ns mo) c.L a ccd cl)) (fun v1 s1 => wpAny (model PySem.Challenge.rw_pq1024_01.row.prog w) c.A (call (.builtin T) [v1]) Q E s1) E s)
    (he1 : starEach [e1] (envX cn (fnSc ns mo) c.L a ccd cl) = [(false, eval e1 (envX cn (fnSc ns mo) c.L a ccd cl))] := by rfl) :
    wpAny (model PySem.Challenge.rw_pq1024_01.row.prog w) c.A (eval (.Call (.Name x px) [e1] [] pos) (envX cn (fnSc ns mo) c.L a ccd cl)) Q E s :=
  Call_ (ev_bi S g e hv hn hx (PyProof.Rows.callWith_builtin1 (args_cons (wpAny_mono h (fun v s1 h1 => args_nil h1) fun _ _ e => e) he1) he1 rfl))
theorem callB2 {cn : Str} {ns : List (Str × NameKind)} {mo : List (Str × Const)} {a : Addr} {ccd : Value} {cl : List (Str × Addr)} {x : Str} {px pos : Pos} {T : String} {e1 e2 : Expr} {Q : Value → Shared → Prop} (S : St w c m own P s) (g : goodNs ns = true) (e : nsIn (hd.heap_39 w.params) mainGlobals x = some none) (hv : bootBuiltins x = some (.builtin T)) (hn : x ≠ "__name__") (hx : (x, NameKind.globalImplicit) ∈ ns)
    (h : wpAny (model PySem.Challenge.rw_pq1024_01.row.prog w) c.A (eval e1 (envX cn (fnSc ns mo) c.L a ccd cl)) (fun v1 s1 => wpAny (model PySem.Challenge.rw_pq1024_01.row.prog w) c.A (eval e2 (envX cn (fnSc ns mo) c.L a ccd cl)) (fun v2 s2 => wpAny (model PySem.Challenge.rw_pq1024_01.row.prog w) c.A (call (.builtin T) [v1, v2]) Q E s2) E s1) E s)
    (he1 : starEach [e1, e2] (envX cn (fnSc ns mo) c.L a ccd cl) = [(false, eval e1 (envX cn (fnSc ns mo) c.L a ccd cl)), (false, eval e2 (envX cn (fnSc ns mo) c.L a ccd cl))] := by rfl) (he2 : starEach [e2] (envX cn (fnSc ns mo) c.L a ccd cl) = [(false, eval e2 (envX cn (fnSc ns mo) c.L a ccd cl))] := by rfl) :
    wpAny (model PySem.Challenge.rw_pq1024_01.row.prog w) c.A (eval (.Call (.Name x px) [e1, e2] [] pos) (envX cn (fnSc ns mo) c.L a ccd cl)) Q E s :=
  Call_ (ev_bi S g e hv hn hx (PyProof.Rows.callWith_builtin1 (args_cons (wpAny_mono h (fun v s1 h1 => args_cons (wpAny_mono h1 (fun v2 s2 h2 => args_nil h2) fun _ _ e => e) he2) fun _ _ e => e) (by rw [he2]; exact he1)) (by rw [he2]; exact he1) (by rw [he2]; rfl)))

theorem add_l {a b : Addr} {xs ys : List Value} {Q : Value → Shared → Prop} (S : St w c m own P s) (ha : s.heap.IsList a xs.toArray) (hb : s.heap.IsList b ys.toArray) (hz : xs.length + ys.length ≤ sizeLine)
    (h : ∀ D s', St w c m own ((D, listOf (xs ++ ys).toArray 0) :: P) s' → Q (.ref D) s') : wpAny (model PySem.Challenge.rw_pq1024_01.row.prog w) c.A (binaryOp .Add (.ref a) (.ref b)) Q E s :=
  kmk_add_lit (zs := xs ++ ys) S.F S.N ha hb (by simp) (fun D h' F' N' lt => h D _ (S.addP F' N' lt)) (by simpa using hz)
theorem list_of {a : Addr} {xs : List Value} {n : Nat} {Q : Value → Shared → Prop} (S : St w c m own P s) (ha : (a, listOf xs.toArray n) ∈ P) (hz : xs.length ≤ sizeLine)
    (h : ∀ D e s', St w c m own ((D, listOf xs.toArray e) :: P) s' → Q (.ref D) s') : wpAny (model PySem.Challenge.rw_pq1024_01.row.prog w) c.A (call (.type "list") [.ref a]) Q E s :=
  kup_listOf (zs := xs) S.F S.N (List.mem_append_right _ ha) (by simp) (fun D e h' F' N' lt => h D e _ (S.addP F' N' lt)) (by simpa using hz)
theorem app {D : Addr} {xs : List Value} {n : Nat} {x : Value} {Q : Value → Shared → Prop} (S : St w c m ((D, listOf xs.toArray n) :: own) P s) (hz : xs.length ≤ sizeLine)
    (h : ∀ s', St w c m ((D, listOf (xs ++ [x]).toArray (n + 1)) :: own) P s' → Q .none s') : wpAny (model PySem.Challenge.rw_pq1024_01.row.prog w) c.A (call (.builtin "list.append") [.ref D, x]) Q E s :=
  append_K S.F S.N (S.upd rfl) (fun h' F' N' => h _ (by have := S.setO rfl (o' := listOf (xs ++ [x]).toArray (n + 1)) (tk := s.toks) F' (by rw [List.push_toArray] at N'; exact N'); exact this)) (by simpa using hz)
end

theorem fits_le {n : Nat} (h : n ≤ 1000000) : n ≤ sizeLine := by rw [sizeLine_eq]; omega
theorem len_kids (t : T) : t.kids.length ≤ t.size := by have := len_sizes t.kids; rw [size_eq]; omega
def partsFn : T → Addr
  | .cint _ => 35 | .cun => 35 | .loc _ => 35 | .glob _ => 35 | .setl _ _ => 127 | .lam _ _ _ => 160 | .call _ _ => 207 | .seq _ => 240 | .fix _ _ _ => 273
local macro_rules | `(tactic| walk_at "ent") => `(tactic| (refine enter (K := hd.heap_39 _) rfl (by assumption) (by k_is) (by k_is) (by omega) (by exact BindsTo.of_eq rfl) (by exact rfl) (by kernel_rfl) ?_ (by assumption)))
local macro_rules | `(tactic| walk_at "mem") => `(tactic| with_reducible repeat first | exact List.mem_cons_self | assumption | refine List.mem_cons_of_mem _ ?_)
local macro_rules | `(tactic| walk_at "locv") => `(tactic| with_reducible first | refine LocQ.here ?_ | (refine LocQ.there ?_; walk_at "locv"))
local macro_rules | `(tactic| walk_at "setl") => `(tactic| with_reducible first | refine SetQ.here ?_ | refine SetQ.hereN ?_ | (refine SetQ.there ?_; walk_at "setl") | (refine SetQ.thereN ?_; walk_at "setl"))
local macro_rules | `(tactic| walk_at "sub") => `(tactic| first | exact fun _ h => h | assumption | (intro p hp; solve_by_elim [List.mem_cons_of_mem]))
local macro_rules | `(tactic| walk_at "go1") => `(tactic| with_reducible first
  | refine wpAny_execs_cons ?_
  | refine wpAny_execs_nil ?_
  | refine wpAny_Return_some ?_
  | (refine ev_loc (by assumption) (by assumption) ?_; walk_at "locv")
  | refine List_ ?_
  | refine sp0 ?_
  | refine sp1 ?_ (by k_dflt rfl)
  | refine Attribute_any_ ?_ (by k_dflt rfl)
  | refine wpAny_BinOp ?_
  )
local macro_rules | `(tactic| walk_at "go") => `(tactic| repeat walk_at "go1")
theorem fp_Const (w : World) : findIn (hd.heap_39 w.params) (.ref 66) (Str.ofString "parts") = some (some (.ref 35)) := by kernel_rfl
theorem fp_Local (w : World) : findIn (hd.heap_39 w.params) (.ref 85) (Str.ofString "parts") = some (some (.ref 35)) := by kernel_rfl
theorem fp_Global (w : World) : findIn (hd.heap_39 w.params) (.ref 104) (Str.ofString "parts") = some (some (.ref 35)) := by kernel_rfl
theorem fp_SetLocal (w : World) : findIn (hd.heap_39 w.params) (.ref 137) (Str.ofString "parts") = some (some (.ref 127)) := by kernel_rfl
theorem fp_Lambda (w : World) : findIn (hd.heap_39 w.params) (.ref 184) (Str.ofString "parts") = some (some (.ref 160)) := by kernel_rfl
theorem fp_Call (w : World) : findIn (hd.heap_39 w.params) (.ref 217) (Str.ofString "parts") = some (some (.ref 207)) := by kernel_rfl
theorem fp_Seq (w : World) : findIn (hd.heap_39 w.params) (.ref 250) (Str.ofString "parts") = some (some (.ref 240)) := by kernel_rfl
theorem fp_Fix (w : World) : findIn (hd.heap_39 w.params) (.ref 283) (Str.ofString "parts") = some (some (.ref 273)) := by kernel_rfl
theorem isfn_35 (w : World) : isFn (hd.heap_39 w.params) (.ref 35) = true := by kernel_rfl
theorem kpf_35 (w : World) : keepIn (hd.heap_39 w.params) (.ref 35) = true := by kernel_rfl
theorem isfn_127 (w : World) : isFn (hd.heap_39 w.params) (.ref 127) = true := by kernel_rfl
theorem kpf_127 (w : World) : keepIn (hd.heap_39 w.params) (.ref 127) = true := by kernel_rfl
theorem isfn_160 (w : World) : isFn (hd.heap_39 w.params) (.ref 160) = true := by kernel_rfl
theorem kpf_160 (w : World) : keepIn (hd.heap_39 w.params) (.ref 160) = true := by kernel_rfl
theorem isfn_207 (w : World) : isFn (hd.heap_39 w.params) (.ref 207) = true := by kernel_rfl
theorem kpf_207 (w : World) : keepIn (hd.heap_39 w.params) (.ref 207) = true := by kernel_rfl
theorem isfn_240 (w : World) : isFn (hd.heap_39 w.params) (.ref 240) = true := by kernel_rfl
theorem kpf_240 (w : World) : keepIn (hd.heap_39 w.params) (.ref 240) = true := by kernel_rfl
theorem isfn_273 (w : World) : isFn (hd.heap_39 w.params) (.ref 273) = true := by kernel_rfl
theorem kpf_273 (w : World) : keepIn (hd.heap_39 w.params) (.ref 273) = true := by kernel_rfl
theorem isfn_134 (w : World) : isFn (hd.heap_39 w.params) (.ref 134) = true := by kernel_rfl
theorem kpf_134 (w : World) : keepIn (hd.heap_39 w.params) (.ref 134) = true := by kernel_rfl
theorem isfn_167 (w : World) : isFn (hd.heap_39 w.params) (.ref 167) = true := by kernel_rfl
theorem kpf_167 (w : World) : keepIn (hd.heap_39 w.params) (.ref 167) = true := by kernel_rfl
theorem isfn_214 (w : World) : isFn (hd.heap_39 w.params) (.ref 214) = true := by kernel_rfl
theorem kpf_214 (w : World) : keepIn (hd.heap_39 w.params) (.ref 214) = true := by kernel_rfl
theorem isfn_247 (w : World) : isFn (hd.heap_39 w.params) (.ref 247) = true := by kernel_rfl
theorem kpf_247 (w : World) : keepIn (hd.heap_39 w.params) (.ref 247) = true := by kernel_rfl
theorem isfn_280 (w : World) : isFn (hd.heap_39 w.params) (.ref 280) = true := by kernel_rfl
theorem kpf_280 (w : World) : keepIn (hd.heap_39 w.params) (.ref 280) = true := by kernel_rfl
theorem fwp_SetLocal (w : World) : findIn (hd.heap_39 w.params) (.ref 137) (Str.ofString "with_parts") = some (some (.ref 134)) := by kernel_rfl
theorem fwp_Lambda (w : World) : findIn (hd.heap_39 w.params) (.ref 184) (Str.ofString "with_parts") = some (some (.ref 167)) := by kernel_rfl
theorem fwp_Call (w : World) : findIn (hd.heap_39 w.params) (.ref 217) (Str.ofString "with_parts") = some (some (.ref 214)) := by kernel_rfl
theorem fwp_Seq (w : World) : findIn (hd.heap_39 w.params) (.ref 250) (Str.ofString "with_parts") = some (some (.ref 247)) := by kernel_rfl
theorem fwp_Fix (w : World) : findIn (hd.heap_39 w.params) (.ref 283) (Str.ofString "with_parts") = some (some (.ref 280)) := by kernel_rfl

theorem parts_of {w : World} {P : Led} {x : Addr} {t : T} (h : Nd w P x t) (hz : t.size ≤ 1000000) : Pure w 2 P (call (.ref (partsFn t)) [.ref x]) fun P' r => ∃ l vs e, r = .ref l ∧ (l, listOf vs.toArray e) ∈ P' ∧ Nds w P' vs t.kids := by
  intro c m own s Q E S hdp hu ret
  have X := S.X
  have h' := h
  cases h
  case' cint h1 h2 => skip
  case' cun h1 h2 => skip
  case' loc h1 h2 => skip
  case' glob h1 h2 => skip
  case' setl h1 h2 h3 => skip
  case' lam h1 h2 h3 h4 h5 => skip
  case' call h1 h2 h3 h4 h5 => skip
  case' seq h1 h2 h3 h4 => skip
  case' fix h1 h2 h3 h4 h5 h6 h7 => skip
  all_goals (
    dsimp only [partsFn]
    refine wpAny_call ?_
    walk_at "ent"
    clear ret
    intro c' s' gN _ _ S'
    dsimp only [List.map] at S'
    walk_at "go")
  case cint | cun | loc | glob =>
    refine nl S' ?_ (Nat.zero_le _)
    intro l s1 S1
    exact ⟨_, [], [], _, S1, fun p hp => .tail _ hp, rfl, _, _, _, rfl, .head _, .nil⟩
  case setl =>
    refine at_setl_value S' h' (fun _ h => h) ?_
    intro s1 v S1 hv
    walk_at "go"
    refine nl S1 ?_ (Nat.le_of_ble_eq_true rfl)
    intro l s2 S2
    exact ⟨_, [], [], _, S2, fun p hp => .tail _ hp, rfl, _, _, _, rfl, .head _, .cons (hv.mono fun p hp => .tail _ hp) .nil⟩
  case lam =>
    refine at_lam_body S' h' (fun _ h => h) ?_
    intro s1 v S1 hv
    walk_at "go"
    refine nl S1 ?_ (Nat.le_of_ble_eq_true rfl)
    intro l s2 S2
    exact ⟨_, [], [], _, S2, fun p hp => .tail _ hp, rfl, _, _, _, rfl, .head _, .cons (hv.mono fun p hp => .tail _ hp) .nil⟩
  case call =>
    refine at_call_operator S' h' (fun _ h => h) ?_
    intro s1 v S1 hv
    walk_at "go"
    refine nl S1 ?_ (Nat.le_of_ble_eq_true rfl)
    intro l s2 S2
    walk_at "go"
    refine at_call_operands S2 h' (fun p hp => .tail _ hp) ?_
    intro s3 l2 vs e S3 hl hvs
    refine add_l S3 (S3.isListP (.head _)) (S3.isListP hl) (fits_le (Nat.le_trans (by rw [hvs.length]; simp only [T.kids, List.length_cons, List.length_nil]; omega) (Nat.le_trans (len_kids _) hz))) ?_
    · intro D s4 S4
      exact ⟨_, [], [], _, S4, fun p hp => .tail _ (.tail _ hp), rfl, _, _, _, rfl, .head _, .cons (hv.mono fun p hp => .tail _ (.tail _ hp)) (hvs.mono fun p hp => .tail _ hp)⟩
  case seq =>
    refine callT S' gN (gn_list w) (by boot_by_name) (by decide) (by walk_at "mem") ?_
    walk_at "go"
    refine at_seq_items S' h' (fun _ h => h) ?_
    intro s1 l vs e S1 hl hvs
    refine list_of S1 hl (fits_le (Nat.le_trans (by rw [hvs.length]; exact Nat.le_of_eq rfl) (Nat.le_trans (len_kids _) hz))) ?_
    intro D e2 s2 S2
    exact ⟨_, [], [], _, S2, fun p hp => .tail _ hp, rfl, _, _, _, rfl, .head _, hvs.mono fun p hp => .tail _ hp⟩
  case fix =>
    refine at_fix_lambdas S' h' (fun _ h => h) ?_
    intro s1 l1 vs e S1 hl hvs
    walk_at "go"
    refine at_fix_body S1 h' (fun _ h => h) ?_
    intro s2 v S2 hv
    walk_at "go"
    refine nl S2 ?_ (Nat.le_of_ble_eq_true rfl)
    intro l s3 S3
    refine add_l S3 (S3.isListP (.tail _ hl)) (S3.isListP (.head _)) (fits_le (Nat.le_trans ?_ (Nat.le_trans (len_kids _) hz))) ?_
    · rw [hvs.length]; simp only [T.kids, List.length_append, List.length_cons, List.length_nil]; omega
    · intro D s4 S4
      exact ⟨_, [], [], _, S4, fun p hp => .tail _ (.tail _ hp), rfl, _, _, _, rfl, .head _, (hvs.mono fun p hp => .tail _ (.tail _ hp)).append (.cons (hv.mono fun p hp => .tail _ (.tail _ hp)) .nil)⟩
end Mine
end
section
namespace Mine
inductive All2 {δ : Type} (R : Value → δ → Prop) : List Value → List δ → Prop
  | nil : All2 R [] []
  | cons {v : Value} {d : δ} {vs : List Value} {ds : List δ} : R v d → All2 R vs ds → All2 R (v :: vs) (d :: ds)
theorem All2.mono {δ : Type} {R R' : Value → δ → Prop} (h : ∀ v d, R v d → R' v d) : ∀ {vs : List Value} {ds : List δ}, All2 R vs ds → All2 R' vs ds
  | _, _, .nil => .nil
  | _, _, .cons a r => .cons (h _ _ a) (r.mono h)
theorem All2.snoc {δ : Type} {R : Value → δ → Prop} {v : Value} {d : δ} (h : R v d) : ∀ {vs : List Value} {ds : List δ}, All2 R vs ds → All2 R (vs ++ [v]) (ds ++ [d])
  | _, _, .nil => .cons h .nil
  | _, _, .cons a r => .cons a (r.snoc h)
theorem All2.length {δ : Type} {R : Value → δ → Prop} : ∀ {vs : List Value} {ds : List δ}, All2 R vs ds → vs.length = ds.length
  | _, _, .nil => rfl
  | _, _, .cons _ r => by rw [List.length_cons, List.length_cons, r.length]
theorem All2.get {δ : Type} {R : Value → δ → Prop} : ∀ {vs : List Value} {ds : List δ} {i : Nat} {v : Value}, All2 R vs ds → vs[i]? = some v → ∃ d, ds[i]? = some d ∧ R v d
  | _, _, 0, _, .cons h _, e => by cases e; exact ⟨_, rfl, h⟩
  | _, _, i + 1, _, .cons _ r, e => r.get (i := i) e
theorem All2.ofNds {w : World} {P : Led} : ∀ {vs : List Value} {ts : List T}, Nds w P vs ts → All2 (fun v t => ∃ a, v = .ref a ∧ Nd w P a t) vs ts
  | _, _, .nil => .nil
  | _, _, .cons h r => .cons ⟨_, rfl, h⟩ (All2.ofNds r)
theorem All2.toDat {P : Led} : ∀ {vs : List Value} {ts : List T}, All2 (fun v t => DatIn P v t.tell) vs ts → DatAll P vs (tells ts)
  | _, _, .nil => .nil
  | _, _, .cons h r => .cons h r.toDat

theorem comp_all {w : World} {c : Cx} {m : Str → Option Value} {own P : Led} {s : Shared} {E Q : Value → Shared → Prop} {δ : Type} {Rin Rout : Led → Value → δ → Prop} {ds : List δ} {elt iter : Expr} {x : Str} {px pos : Pos} {scope : Scope} {cl : List (Str × Addr)} {env : Env}
    (hin : ∀ P P' v d, (∀ p ∈ P, p ∈ P') → Rin P v d → Rin P' v d) (hout : ∀ P P' v d, (∀ p ∈ P, p ∈ P') → Rout P v d → Rout P' v d) (S : St w c m own P s)
    (hclos : closureFor scope env = pure cl) (hcell : ∀ y ∈ scope.names, y.2 ≠ .cell) (hkind : scope.kind = .function)
    (hnames : ∀ y ∈ scope.names, y.2 = .local → scope.names.lookup y.1 = some .local) (hx : scope.names.lookup x = some .local) (hs : ∀ x, foldedSetIterable iter env x = pure x)
    (hit : wpAny (model PySem.Challenge.rw_pq1024_01.row.prog w) c.A (eval iter env) (fun xv s1 => ∃ ax vs e P', xv = .ref ax ∧ St w c m own P' s1 ∧ (∀ p ∈ P, p ∈ P') ∧ (ax, listOf vs.toArray e) ∈ P' ∧ All2 (Rin P') vs ds) E s)
    (hz : ds.length ≤ sizeLine)
    (turn : ∀ d ∈ ds, ∀ P' v I oI C oC D m₂ ys s2 E', (∀ p ∈ P, p ∈ P') → Rin P' v d → LCg.NsObj oC m₂ → m₂ x = some v → St w c m ((I, oI) :: (C, oC) :: (D, LCg.lst ys) :: own) P' s2 →
      wpAny (model PySem.Challenge.rw_pq1024_01.row.prog w) c.A (eval elt (compEnvC scope cl C env)) (fun y s3 => ∃ P3, St w c m ((I, oI) :: (C, oC) :: (D, LCg.lst ys) :: own) P3 s3 ∧ (∀ p ∈ P', p ∈ P3) ∧ Rout P3 y d) E' s2)
    (fin : ∀ D ys P' s', St w c m own ((D, listOf ys.toArray ys.length) :: P') s' → (∀ p ∈ P, p ∈ P') → All2 (Rout P') ys ds → Q (.ref D) s') :
    wpAny (model PySem.Challenge.rw_pq1024_01.row.prog w) c.A (eval (.ListComp elt [⟨.Name x px, iter, [], 0⟩] scope pos) env) Q E s := by
  refine LCg.ListComp_U S.F hclos hcell hkind hnames hx (wpAny_mono hit (fun xv s1 h1 => ?_) fun _ _ e => e) hs
  obtain ⟨ax, vs, e, P', rfl, S1, hs1, hl, hall⟩ := h1
  have hlen := hall.length
  refine LCg.CompSrc.ledger S1.hh S1.F S1.N (List.mem_append_right own hl) (by rw [List.size_toArray, hlen]; exact hz) fun g => ?_
  have key : ∀ (j i : Nat) (ys : List Value) (P2 : Led), i + j = vs.length → (∀ p ∈ P', p ∈ P2) → Apart own P2 → All2 (Rout P2) ys (ds.take i) →
      LCg.CompRest PySem.Challenge.rw_pq1024_01.row.prog w c.A c.g c.L m env elt x scope cl { s1 with heap := g } (LCg.SrcAt c.g ax vs.toArray) (fun i v => vs.toArray[i]? = some v) (LCg.FinE c.g c.L m { s1 with heap := g } Q) j i ys (own ++ P2) := by
    intro j
    induction j with
    | zero =>
      intro i ys P2 hi hs2 ap2 hys
      refine LCg.CompRest.zero ?_
      intro D h tk F' N' o1
      have e1 : ds.take i = ds := List.take_of_length_le (by omega)
      rw [e1] at hys
      have oD : ∀ p ∈ own ++ P2, p.1 ≠ D := by
        have gen : ∀ l : Led, LCg.Off1 D l → ∀ p ∈ l, p.1 ≠ D := by
          intro l
          induction l with
          | nil => intro _ _ h; exact nomatch h
          | cons q r ih =>
            intro h p hp
            rcases List.mem_cons.mp hp with rfl | hp
            · exact h.1
            · exact ih h.2 p hp
        exact gen _ o1
      refine fin D ys P2 _ ⟨F', fun p hp => N' p ?_, fun q hq p hp => ?_, S1.nd, S1.X, S1.T, S1.B, S1.hh, S1.fr, S1.eg, S1.ed, S1.eo⟩ (fun p hp => hs2 p (hs1 p hp)) hys
      · rcases List.mem_append.mp hp with hp | hp
        · exact .tail _ (List.mem_append_left _ hp)
        · rcases List.mem_cons.mp hp with rfl | hp
          · exact .head _
          · exact .tail _ (List.mem_append_right _ hp)
      · rcases List.mem_cons.mp hp with rfl | hp
        · exact Ne.symm (oD q (List.mem_append_left _ hq))
        · exact ap2 q hq p hp
    | succ j ih =>
      intro i ys P2 hi hs2 ap2 hys
      refine LCg.CompRest.succ ?_
      intro v I oI C oC D m₂ h tk E' hv hC hmx F N off ne
      have hv' : vs[i]? = some v := by simpa using hv
      obtain ⟨d, hd, hR⟩ := hall.get hv'
      have off3 := off.mem
      have S2 : St w c m ((I, oI) :: (C, oC) :: (D, LCg.lst ys) :: own) P2 { s1 with heap := h, toks := tk } := by
        refine ⟨F, N, fun q hq p hp => ?_, ?_, S1.X, S1.T, S1.B, S1.hh, S1.fr, S1.eg, S1.ed, S1.eo⟩
        · have o := off3 p (List.mem_append_right _ hp)
          rcases List.mem_cons.mp hq with rfl | hq
          · exact o.1
          · rcases List.mem_cons.mp hq with rfl | hq
            · exact o.2.1
            · rcases List.mem_cons.mp hq with rfl | hq
              · exact o.2.2
              · exact ap2 q hq p hp
        · simp only [List.map_cons, List.nodup_cons, List.mem_cons, not_or]
          have notin : ∀ b : Addr, (∀ q ∈ own, q.1 ≠ b) → b ∉ own.map (·.1) := fun b hb hm => by
            obtain ⟨q, hq, e⟩ := List.mem_map.mp hm
            exact hb q hq e
          exact ⟨⟨ne.1, ne.2.1, notin _ fun q hq => (off3 q (List.mem_append_left _ hq)).1⟩, ⟨ne.2.2, notin _ fun q hq => (off3 q (List.mem_append_left _ hq)).2.1⟩, notin _ fun q hq => (off3 q (List.mem_append_left _ hq)).2.2, S1.nd⟩
      refine wpAny_mono (turn d (List.mem_of_getElem? hd) P2 v I oI C oC D m₂ ys _ E' (fun p hp => hs2 p (hs1 p hp)) (hin _ _ _ _ hs2 hR) hC hmx S2) (fun y s3 h3 => ?_) fun _ _ e => e
      obtain ⟨P3, S3, hs3, hO⟩ := h3
      have e3 : s3 = { ({ s1 with heap := h, toks := tk } : Shared) with heap := s3.heap, toks := s3.toks } := by
        have h1 := S3.eg.trans S1.eg.symm
        have h2 := S3.ed.trans S1.ed.symm
        have h3 := S3.eo.trans S1.eo.symm
        cases s3
        dsimp only at h1 h2 h3
        subst h1 h2 h3
        rfl
      have nd := S3.nd
      simp only [List.map_cons, List.nodup_cons, List.mem_cons, not_or] at nd
      have apO : ∀ q ∈ own, q.1 ≠ I ∧ q.1 ≠ C ∧ q.1 ≠ D := fun q hq => (off3 q (List.mem_append_left _ hq))
      refine ⟨s3.heap, s3.toks, own ++ P3, e3, S3.F, S3.N, LCg.Off3.of fun p hp => ?_, .inr ⟨_, List.mem_append_right _ (hs3 _ (hs2 _ hl)), rfl, _, rfl⟩, ?_⟩
      · rcases List.mem_append.mp hp with hp | hp
        · exact apO p hp
        · exact ⟨S3.ap _ (.head _) p hp, S3.ap _ (.tail _ (.head _)) p hp, S3.ap _ (.tail _ (.tail _ (.head _))) p hp⟩
      · refine ih (i + 1) (ys ++ [y]) P3 (by omega) (fun p hp => hs3 p (hs2 p hp)) (fun q hq p hp => S3.ap q (.tail _ (.tail _ (.tail _ hq))) p hp) ?_
        rw [List.take_add_one, hd]
        exact (hys.mono fun v d h => hout _ _ _ _ hs3 h).snoc hO
  have := key vs.length 0 [] P' (by omega) (fun _ h => h) S1.ap .nil
  rw [List.size_toArray]
  exact this
end Mine
end
section
namespace Mine
section
variable {w : World} {c : Cx} {m : Str → Option Value} {own P P₀ : Led} {s : Shared} {E : Value → Shared → Prop} {Q : Value → Shared → Prop}
theorem cv_own {C : Addr} {m₂ : Str → Option Value} {scope : Scope} {cl : List (Str × Addr)} {env : Env} {x : Str} {pos : Pos} {v : Value} {oC : Obj} (S : St w c m own P s) (hm : (C, oC) ∈ own) (hC : LCg.NsObj oC m₂) (hx : m₂ x = some v) (h : Q v s)
    (hk : (compEnvC scope cl C env).scope.kind = .function := by rfl) (hl : (compEnvC scope cl C env).kindOf x = some .local := by rfl) (hd : (x == ("__debug__" : Str)) = false := by decide) :
    wpAny (model PySem.Challenge.rw_pq1024_01.row.prog w) c.A (eval (.Name x pos) (compEnvC scope cl C env)) Q E s := LCgL.ld_own S.N (List.mem_append_left _ hm) hC hx h hk hl hd
theorem cv_glob {C : Addr} {scope : Scope} {cl : List (Str × Addr)} {env : Env} {x : Str} {pos : Pos} {v : Value} (S : St w c m own P s) (e : nsIn (hd.heap_39 w.params) mainGlobals x = some (some v)) (h : Q v s) (hg : env.globals = mainGlobals := by rfl)
    (hk : (compEnvC scope cl C env).scope.kind = .function := by rfl) (hx : (compEnvC scope cl C env).kindOf x = some .globalImplicit := by rfl) (hd : (x == ("__debug__" : Str)) = false := by decide) :
    wpAny (model PySem.Challenge.rw_pq1024_01.row.prog w) c.A (eval (.Name x pos) (compEnvC scope cl C env)) Q E s := LCgL.ld_global S.F S.X S.T e h hg hk hx hd
/-- a call of a def of the text within a comprehension's element -/
theorem ccall1 {C : Addr} {scope : Scope} {cl : List (Str × Addr)} {env : Env} {x : Str} {px pos : Pos} {fv : Value} {e1 : Expr} (S : St w c m own P s) (e : nsIn (hd.heap_39 w.params) mainGlobals x = some (some fv)) (hkp : keepIn (hd.heap_39 w.params) fv = true)
    (h : wpAny (model PySem.Challenge.rw_pq1024_01.row.prog w) c.A (eval e1 (compEnvC scope cl C env)) (fun v1 s1 => (hd.heap_39 w.params).In s1.heap ∧ wpAny (model PySem.Challenge.rw_pq1024_01.row.prog w) c.A (call fv [v1]) Q E s1) E s) (hg : env.globals = mainGlobals := by rfl)
    (hk : (compEnvC scope cl C env).scope.kind = .function := by rfl) (hx : (compEnvC scope cl C env).kindOf x = some .globalImplicit := by rfl) (hd : (x == ("__debug__" : Str)) = false := by decide)
    (he1 : starEach [e1] (compEnvC scope cl C env) = [(false, eval e1 (compEnvC scope cl C env))] := by rfl) :
    wpAny (model PySem.Challenge.rw_pq1024_01.row.prog w) c.A (eval (.Call (.Name x px) [e1] [] pos) (compEnvC scope cl C env)) Q E s := by
  refine Call_ (cv_glob S e ?_ hg hk hx hd)
  refine callWith_K S.X hkp ?_ he1 rfl
  exact args_cons (wpAny_mono h (fun v s1 h1 => args_nil h1) fun _ _ e => e) he1
theorem tuple_of {l : Addr} {xs : List Value} {e : Nat} (S : St w c m own P s) (hl : (l, listOf xs.toArray e) ∈ P) (hz : xs.length ≤ 16384) (h : ∀ D s', St w c m own ((D, tupOf xs 0) :: P) s' → Q (.ref D) s') :
    wpAny (model PySem.Challenge.rw_pq1024_01.row.prog w) c.A (call (.type "tuple") [.ref l]) Q E s :=
  kde_tupleOf (zs := xs) S.F S.N (S.isListP hl) (by simpa using hz) (by simp) fun D h' F' N' lt => h D _ (S.addP F' N' lt)
theorem in_tup {t : Addr} {vs : List Value} {e : Nat} {ns : List Int} {x : Int} {u : Tok} (S : St w c m own P s) (ht : (t, tupOf vs e) ∈ P) (hi : IntsAre vs ns) (h : Q (.bool (ns.any (· == x))) s) :
    wpAny (model PySem.Challenge.rw_pq1024_01.row.prog w) c.A (compareOp .In (.int x u) (.ref t)) Q E s :=
  in_tuple_ints (S.N.isTup (List.mem_append_right _ ht)) (by simpa using hi) h
/-- x.parts() -/
theorem parts_m {x : Addr} {t : T} {pl : Sem Bool} {pos : Pos} {env : Env} (S : St w c m own P s) (h : Nd w P₀ x t) (hs : ∀ p ∈ P₀, p ∈ P) (hz : t.size ≤ 1000000) (hdp : c.A.depth + 2 < recursionLimit) (hu : c.A.units + 16 < cLine)
    (k : ∀ l vs e P' s', St w c m own P' s' → (∀ p ∈ P, p ∈ P') → (l, listOf (List.toArray vs) e) ∈ P' → Nds w P' vs t.kids → Q (.ref l) s') :
    wpAny (model PySem.Challenge.rw_pq1024_01.row.prog w) c.A (getMethod (.ref x) (Str.ofString "parts") pl) (fun fx s₂ => wpAny (model PySem.Challenge.rw_pq1024_01.row.prog w) c.A (callWith pos fx.1 fx.2 (backTo pos (starEach [] env)) []) Q E s₂) E s := by
  have hN := h.mono hs
  have fin : keepIn (hd.heap_39 w.params) (.ref (partsFn t)) = true → wpAny (model PySem.Challenge.rw_pq1024_01.row.prog w) c.A (callWith pos (.ref (partsFn t)) [.ref x] (backTo pos (starEach [] env)) []) Q E s := fun hk =>
    callWith_K0 S.kin hk (parts_of hN hz c m own s Q E S hdp hu fun r P' s' S' hs' ⟨l, vs, e, hr, hm, hn⟩ => by rw [hr]; exact k l vs e P' s' S' hs' hm hn)
  have hN' := hN
  cases hN with
  | cint h1 h2 => exact method_inst S.F S.X (inst_at S h1 h2) (pg_Const w _) (fp_Const w) (isfn_35 w) rfl (fin (kpf_35 w))
  | cun h1 h2 => exact method_inst S.F S.X (inst_at S h1 h2) (pg_Const w _) (fp_Const w) (isfn_35 w) rfl (fin (kpf_35 w))
  | loc h1 h2 => exact method_inst S.F S.X (inst_at S h1 h2) (pg_Local w _) (fp_Local w) (isfn_35 w) rfl (fin (kpf_35 w))
  | glob h1 h2 => exact method_inst S.F S.X (inst_at S h1 h2) (pg_Global w _) (fp_Global w) (isfn_35 w) rfl (fin (kpf_35 w))
  | setl h1 h2 h3 => exact method_inst S.F S.X (inst_at S h1 h2) (pg_SetLocal w _) (fp_SetLocal w) (isfn_127 w) rfl (fin (kpf_127 w))
  | lam h1 h2 h3 h4 h5 => exact method_inst S.F S.X (inst_at S h1 h2) (pg_Lambda w _) (fp_Lambda w) (isfn_160 w) rfl (fin (kpf_160 w))
  | call h1 h2 h3 h4 h5 => exact method_inst S.F S.X (inst_at S h1 h2) (pg_Call w _) (fp_Call w) (isfn_207 w) rfl (fin (kpf_207 w))
  | seq h1 h2 h3 h4 => exact method_inst S.F S.X (inst_at S h1 h2) (pg_Seq w _) (fp_Seq w) (isfn_240 w) rfl (fin (kpf_240 w))
  | fix h1 h2 h3 h4 h5 h6 h7 => exact method_inst S.F S.X (inst_at S h1 h2) (pg_Fix w _) (fp_Fix w) (isfn_273 w) rfl (fin (kpf_273 w))
end
end Mine
end
section
namespace Mine
local macro_rules | `(tactic| k_mem) => `(tactic| with_reducible first | exact List.mem_cons_self | assumption | (refine List.mem_cons_of_mem _ ?_; k_mem))
theorem bt_tuple : bootBuiltins (Str.ofString "tuple") = some (.type "tuple") := by boot_by_name
theorem bt_ne_tuple : (Str.ofString "tuple") ≠ "__name__" := by decide
theorem sl0 : ([] : List Value).length ≤ sizeLine := Nat.zero_le _
theorem sl1 {a : Value} : [a].length ≤ sizeLine := fits_le (by simp)
theorem sl2 {a b : Value} : [a, b].length ≤ sizeLine := fits_le (by simp)
theorem sl3 {a b c : Value} : [a, b, c].length ≤ sizeLine := fits_le (by simp)
theorem sl4 {a b c d : Value} : [a, b, c, d].length ≤ sizeLine := fits_le (by simp)
section
variable {w : World} {c : Cx} {m : Str → Option Value} {own P P₀ : Led} {s : Shared} {E : Value → Shared → Prop} {Q : Value → Shared → Prop}
theorem eq_int_ff {prog : Program} {A : Around} {a b : Int} {t u : Tok} (h : (a == b) = false) (hq : Q (.bool false) s) : wpAny (model prog w) A (compareOp .Eq (.int a t) (.int b u)) Q E s := eq_int (h ▸ hq)
theorem eq_int_tt {prog : Program} {A : Around} {a b : Int} {t u : Tok} (h : (a == b) = true) (hq : Q (.bool true) s) : wpAny (model prog w) A (compareOp .Eq (.int a t) (.int b u)) Q E s := eq_int (h ▸ hq)
theorem in_tup_ff {t : Addr} {vs : List Value} {e : Nat} {ns : List Int} {x : Int} {u : Tok} (S : St w c m own P s) (ht : (t, tupOf vs e) ∈ P) (hi : IntsAre vs ns) (hb : ns.any (· == x) = false) (h : Q (.bool false) s) :
    wpAny (model PySem.Challenge.rw_pq1024_01.row.prog w) c.A (compareOp .In (.int x u) (.ref t)) Q E s := in_tup S ht hi (hb ▸ h)
theorem in_tup_tt {t : Addr} {vs : List Value} {e : Nat} {ns : List Int} {x : Int} {u : Tok} (S : St w c m own P s) (ht : (t, tupOf vs e) ∈ P) (hi : IntsAre vs ns) (hb : ns.any (· == x) = true) (h : Q (.bool true) s) :
    wpAny (model PySem.Challenge.rw_pq1024_01.row.prog w) c.A (compareOp .In (.int x u) (.ref t)) Q E s := in_tup S ht hi (hb ▸ h)
end
theorem tl0 : ([] : List Value).length ≤ 16384 := by decide
theorem tl1 {a : Value} : [a].length ≤ 16384 := by simp
theorem tl2 {a b : Value} : [a, b].length ≤ 16384 := by simp
theorem tl3 {a b c : Value} : [a, b, c].length ≤ 16384 := by simp
theorem dts_ints {P : Led} : ∀ {vs : List Value} {ns : List Int}, IntsAre vs ns → DatAll P vs (dints ns)
  | _, _, .nil => .nil
  | _, _, .cons i t r => .cons (.int i t) (dts_ints r)
def TR (w : World) (P : Led) (v : Value) (t : T) : Prop := ∃ a, v = .ref a ∧ Nd w P a t
theorem TR.mono {w : World} (P P' : Led) (v : Value) (d : T) (hs : ∀ p ∈ P, p ∈ P') : TR w P v d → TR w P' v d := fun ⟨a, e, h⟩ => ⟨a, e, h.mono hs⟩
theorem dat_mono (P P' : Led) (v : Value) (d : T) (hs : ∀ p ∈ P, p ∈ P') : DatIn P v d.tell → DatIn P' v d.tell := DatIn.mono hs
theorem All2.ofNds' {w : World} {P : Led} : ∀ {vs : List Value} {ts : List T}, Nds w P vs ts → All2 (TR w P) vs ts
  | _, _, .nil => .nil
  | _, _, .cons h r => .cons ⟨_, rfl, h⟩ (All2.ofNds' r)
theorem comp_kids {w : World} {c : Cx} {m : Str → Option Value} {own P P₀ : Led} {s : Shared} {E Q : Value → Shared → Prop} {Rout : Led → Value → T → Prop} {t : T} {xa : Addr} {elt iter : Expr} {x : Str} {px pos : Pos} {scope : Scope} {cl : List (Str × Addr)} {env : Env}
    (_hN : Nd w P₀ xa t) (hz : t.size ≤ 4000) (hout : ∀ P P' v d, (∀ p ∈ P, p ∈ P') → Rout P v d → Rout P' v d) (S : St w c m own P s)
    (hclos : closureFor scope env = pure cl) (hcell : ∀ y ∈ scope.names, y.2 ≠ .cell) (hkind : scope.kind = .function)
    (hnames : ∀ y ∈ scope.names, y.2 = .local → scope.names.lookup y.1 = some .local) (hx : scope.names.lookup x = some .local) (hs : ∀ x, foldedSetIterable iter env x = pure x)
    (hit : wpAny (model PySem.Challenge.rw_pq1024_01.row.prog w) c.A (eval iter env) (fun xv s1 => ∃ ax vs e P', xv = .ref ax ∧ St w c m own P' s1 ∧ (∀ p ∈ P, p ∈ P') ∧ (ax, listOf vs.toArray e) ∈ P' ∧ Nds w P' vs t.kids) E s)
    (turn : ∀ d ∈ t.kids, ∀ P' a I oI C oC D m₂ ys s2 E', (∀ p ∈ P, p ∈ P') → Nd w P' a d → LCg.NsObj oC m₂ → m₂ x = some (.ref a) → St w c m ((I, oI) :: (C, oC) :: (D, LCg.lst ys) :: own) P' s2 →
      wpAny (model PySem.Challenge.rw_pq1024_01.row.prog w) c.A (eval elt (compEnvC scope cl C env)) (fun y s3 => ∃ P3, St w c m ((I, oI) :: (C, oC) :: (D, LCg.lst ys) :: own) P3 s3 ∧ (∀ p ∈ P', p ∈ P3) ∧ Rout P3 y d) E' s2)
    (fin : ∀ D ys P' s', St w c m own ((D, listOf ys.toArray ys.length) :: P') s' → (∀ p ∈ P, p ∈ P') → All2 (Rout P') ys t.kids → ys.length ≤ 16384 → Q (.ref D) s') :
    wpAny (model PySem.Challenge.rw_pq1024_01.row.prog w) c.A (eval (.ListComp elt [⟨.Name x px, iter, [], 0⟩] scope pos) env) Q E s :=
  comp_all (Rin := TR w) (ds := t.kids) TR.mono hout S hclos hcell hkind hnames hx hs
    (wpAny_mono hit (fun xv s1 ⟨ax, vs, e, P', e1, S1, hs1, hl, hn⟩ => ⟨ax, vs, e, P', e1, S1, hs1, hl, All2.ofNds' hn⟩) fun _ _ e => e)
    (fits_le (Nat.le_trans (len_kids t) (by omega)))
    (fun d hd P' v I oI C oC D m₂ ys s2 E' hs2 ⟨a, e, hNd⟩ hC hm S2 => turn d hd P' a I oI C oC D m₂ ys s2 E' hs2 hNd hC (e ▸ hm) S2)
    (fun D ys P' s' S' hs' hys => fin D ys P' s' S' hs' hys (by rw [hys.length]; exact Nat.le_trans (len_kids t) (by omega)))
theorem isi_int {t : Addr} {i : Int} {k : Tok} {w : World} {c : Cx} {m : Str → Option Value} {own P : Led} {s : Shared} {E : Value → Shared → Prop} {Q : Value → Shared → Prop} (S : St w c m own P s) (ht : (t, tupOf [.type "int", .type "bool"] 0) ∈ P) (h : ∀ s', St w c m own P s' → Q (.bool true) s') :
    wpAny (model PySem.Challenge.rw_pq1024_01.row.prog w) c.A (call (.builtin "isinstance") [.int i k, .ref t]) Q E s := by
  have N := S.N
  have F := S.F
  have X := S.X
  have hm := List.mem_append_right own ht
  walk1
  exact h _ (S.tok _)
theorem isi_un {t : Addr} {w : World} {c : Cx} {m : Str → Option Value} {own P : Led} {s : Shared} {E : Value → Shared → Prop} {Q : Value → Shared → Prop} (S : St w c m own P s) (ht : (t, tupOf [.type "int", .type "bool"] 0) ∈ P) (h : ∀ s', St w c m own P s' → Q (.bool false) s') :
    wpAny (model PySem.Challenge.rw_pq1024_01.row.prog w) c.A (call (.builtin "isinstance") [.ref 427, .ref t]) Q E s := by
  have N := S.N
  have F := S.F
  have X := S.X
  have hm := List.mem_append_right own ht
  walk1
  exact h _ (S.tok _)
theorem isi_pair {w : World} {c : Cx} {m : Str → Option Value} {own P : Led} {s : Shared} {E : Value → Shared → Prop} {Q : Value → Shared → Prop} (S : St w c m own P s) (h : ∀ s', St w c m own P s' → Q (.bool false) s') :
    wpAny (model PySem.Challenge.rw_pq1024_01.row.prog w) c.A (call (.builtin "isinstance") [.ref 427, .ref 445]) Q E s := by
  have N := S.N
  have F := S.F
  have X := S.X
  walk1
  exact h _ (S.tok _)
theorem fin8_log (i : Fin 8) : ((i.val : Int)).natAbs.log2 < 1920 := by revert i; decide +kernel
theorem rp_int {i : Fin 8} {k : Tok} {w : World} {c : Cx} {m : Str → Option Value} {own P : Led} {s : Shared} {E : Value → Shared → Prop} {Q : Value → Shared → Prop} (S : St w c m own P s) (h : ∀ s' tk, St w c m own P s' → Q (.str (Str.ofString (toString (i.val : Int))) tk) s') :
    wpAny (model PySem.Challenge.rw_pq1024_01.row.prog w) c.A (call (.builtin "repr") [.int (i.val : Int) k]) Q E s := PySem.P.repr_of_int (fin8_log i) (h _ _ (S.tok _))
theorem bt_isinstance : bootBuiltins (Str.ofString "isinstance") = some (.builtin "isinstance") := by boot_by_name
theorem bt_repr : bootBuiltins (Str.ofString "repr") = some (.builtin "repr") := by boot_by_name
theorem bt_int : bootBuiltins (Str.ofString "int") = some (.type "int") := by boot_by_name
theorem bt_bool : bootBuiltins (Str.ofString "bool") = some (.type "bool") := by boot_by_name
theorem ne_isinstance : (Str.ofString "isinstance") ≠ "__name__" := by decide
theorem ne_repr : (Str.ofString "repr") ≠ "__name__" := by decide
theorem ne_int : (Str.ofString "int") ≠ "__name__" := by decide
theorem ne_bool : (Str.ofString "bool") ≠ "__name__" := by decide
end Mine
end
section
namespace Mine
local macro_rules | `(tactic| k_mem) => `(tactic| with_reducible first | exact List.mem_cons_self | assumption | (refine List.mem_cons_of_mem _ ?_; k_mem))
local macro_rules | `(tactic| k_places) => `(tactic| with_reducible first | exact fun _ h => h | assumption | (intro p hp; k_mem))
local macro_rules | `(tactic| kat_tups) => `(tactic| with_reducible first | exact List.mem_cons_self | (refine List.mem_cons_of_mem _ ?_; kat_tups))
local macro_rules | `(tactic| keq_rows) => `(tactic| with_reducible first | refine LocQ.here ?_ | (refine LocQ.there ?_; keq_rows))
local macro_rules | `(tactic| keq_hits) => `(tactic| with_reducible first | refine SetQ.here ?_ | refine SetQ.hereN ?_ | (refine SetQ.there ?_; keq_hits) | (refine SetQ.thereN ?_; keq_hits))
local macro_rules | `(tactic| fold_lay) => `(tactic| (refine enter (K := hd.heap_39 _) rfl (by assumption) (by k_is) (by k_is) (by omega) (by exact BindsTo.of_eq rfl) (by exact rfl) (by kernel_rfl) ?_ (by assumption)))
local macro_rules | `(tactic| k_allIn) => `(tactic| with_reducible first | exact sl0 | exact sl1 | exact sl2 | exact sl3 | exact sl4)
local macro_rules | `(tactic| k_ownIn) => `(tactic| with_reducible first | exact tl0 | exact tl1 | exact tl2 | exact tl3 | exact Nat.le_trans (Nat.le_of_eq (IntsAre.length (by assumption))) (by assumption))
local macro_rules | `(tactic| k_subL) => `(tactic| with_reducible first | exact g_CONST _ | exact g_LOCAL _ | exact g_GLOBAL _ | exact g_SET_LOCAL _ | exact g_SET_GLOBAL _ | exact g_LAMBDA _ | exact g_FIX _ | exact g_PRIM _ | exact g_UNASSIGNED _ | exact g_Pair _ | exact g_CALL _ | exact g_SEQ _ | exact g_DEFINE _ | exact g_TOP _)
local macro_rules | `(tactic| k_clsL) => `(tactic| with_reducible first
  | ((show wpAny _ _ (eval _ _) _ _ _); first
    | refine Attribute_any_ ?_ (by k_dflt rfl)
    | (refine ev_loc (by assumption) (by assumption) ?_; keq_rows)
    | refine ev_glob (by assumption) (by assumption) (by k_subL) (by kat_tups) ?_
    | (refine ev_int (by assumption) ?_; intro s' tk' S')
    | (refine ev_str (by assumption) ?_; intro s' tk' S')
    | refine List_ ?_
    | refine Tuple_ ?_
    | refine callT (by assumption) (by assumption) (gn_tuple _) bt_tuple bt_ne_tuple (by kat_tups) ?_ (by k_dflt rfl)
    | refine wpAny_BinOp ?_
    | refine IfExp_ ?_
    | refine callB2 (by assumption) (by assumption) (gn_isinstance _) bt_isinstance ne_isinstance (by kat_tups) ?_ (by k_dflt rfl) (by k_dflt rfl)
    | refine callB1 (by assumption) (by assumption) (gn_repr _) bt_repr ne_repr (by kat_tups) ?_ (by k_dflt rfl)
    | refine ev_bi (by assumption) (by assumption) (gn_int _) bt_int ne_int (by kat_tups) ?_
    | refine ev_bi (by assumption) (by assumption) (gn_bool _) bt_bool ne_bool (by kat_tups) ?_)
  | ((show wpAny _ _ (exec _ _) _ _ _); first
    | refine wpAny_If ?_
    | refine wpAny_Assign_Name ?_ (by k_dflt rfl)
    | refine wpAny_Return_some ?_
    | refine plainObj_wpAny_Assign_Attribute ?_ (by k_dflt rfl))
  | ((show wpAny _ _ (compareOp _ _ _) _ _ _); first
    | refine eq_int_ff (by k_dflt rfl) ?_
    | refine eq_int_tt (by k_dflt rfl) ?_
    | refine in_tup_ff (by assumption) (by k_mem) (.cons _ _ (.cons _ _ .nil)) (by k_dflt rfl) ?_
    | refine in_tup_tt (by assumption) (by k_mem) (.cons _ _ (.cons _ _ .nil)) (by k_dflt rfl) ?_
    | refine wpAny_is_ref_self ?_)
  | ((show wpAny _ _ (getAttr _ _ _) _ _ _); first
    | (refine at_kind (by assumption) (by assumption) (by k_places) (by assumption) ?_; intro s' tk' S')
    | (refine at_setl_number (by assumption) (by assumption) (by k_places) ?_; intro s' tk' S')
    | (refine at_cint (by assumption) (by assumption) (by k_places) ?_; intro s' tk' S')
    | (refine at_cun (by assumption) (by assumption) (by k_places) ?_; intro s' S')
    | (refine at_loc (by assumption) (by assumption) (by k_places) ?_; intro s' tk' S')
    | (refine at_glob (by assumption) (by assumption) (by k_places) ?_; intro s' tk' S')
    | (refine at_lam_label (by assumption) (by assumption) (by k_places) ?_; intro s' tk' S')
    | (refine at_lam_rest (by assumption) (by assumption) (by k_places) ?_; intro s' tk' S')
    | (refine at_lam_params (by assumption) (by assumption) (by k_places) ?_; intro s' pl' vs' e' S' hp' hi')
    | (refine at_fix_numbers (by assumption) (by assumption) (by k_places) ?_; intro s' pl' vs' e' S' hp' hi'))
  | ((show wpAny _ _ (call _ _) _ _ _); first
    | (refine tuple_of (by assumption) (by k_mem) (by k_ownIn) ?_; intro D' s' S')
    | (refine isi_int (by assumption) (by k_mem) ?_; intro s' S')
    | (refine isi_un (by assumption) (by k_mem) ?_; intro s' S')
    | (refine isi_pair (by assumption) ?_; intro s' S')
    | (refine rp_int (by assumption) ?_; intro s' tk' S'))
  | ((show wpAny _ _ (PySem.isTrue _ _ _) _ _ _); first
    | refine wpAny_isTrue_Compare1 ?_ (by k_dflt rfl)
    | refine isTrue_plain ?_ (by k_dflt rfl))
  | refine wpAny_execs_cons ?_
  | refine sp1 ?_ (by k_dflt rfl)
  | refine sp0 ?_
  | refine wpAny_truthy_bool ?_
  | refine ite_ff ?_
  | refine ite_tt ?_
  | (refine st_loc (by assumption) (by assumption) ?_; keq_hits; intro s' S')
  | (refine nl (by assumption) ?_ (by k_allIn); intro l' s' S')
  | (refine nt (by assumption) ?_ (by k_allIn); intro l' s' S')
  | refine wpAny_execs_nil ?_
  )
local macro_rules | `(tactic| k_offL) => `(tactic| repeat k_clsL)

local macro_rules | `(tactic| kcf_all) => `(tactic| with_reducible first | exact DatAll.nil | (refine DatAll.cons (DatIn.int _ _) ?_; kcf_all) | (refine DatAll.cons (DatIn.str _ _) ?_; kcf_all) | (refine DatAll.cons (DatIn.tuple (by k_mem) (dts_ints (by assumption))) ?_; kcf_all))
theorem told1 {w : World} {P : Led} (t : T) (a : Addr) (hN : Nd w P a t) (hz : t.size ≤ 4000) (IH : ∀ d ∈ t.kids, ∀ a P, Nd w P a d → Pure w (2 * d.dep + 4) P (call (.ref 543) [.ref a]) fun P' r => DatIn P' r d.tell) :
    Pure w (2 * t.dep + 4) P (call (.ref 543) [.ref a]) fun P' r => DatIn P' r t.tell := by
  intro c m own s Q E S hdp hu ret
  have X := S.X
  refine wpAny_call ?_
  fold_lay
  clear ret S
  rw [tell_eq]
  intro c' s' gN hd' hu' S'
  dsimp only [List.map] at S'
  have hps : t.nums ≤ 16384 := by have := size_eq t; omega
  have e0 : t.size ≤ 1000000 := by omega
  have e1 : c'.A.depth + 2 < recursionLimit := by omega
  have e2 : c'.A.units + 16 < cLine := by omega
  have e3 : ∀ d ∈ t.kids, c'.A.depth + (2 * d.dep + 4) < recursionLimit := fun d hd => by have := dep_kid hd; omega
  have e4 : ∀ d ∈ t.kids, c'.A.units + 8 * (2 * d.dep + 4) < cLine := fun d hd => by have := dep_kid hd; omega
  clear hdp hu hd' hu'
  cases t
  case setl n v =>
    have hk : (T.setl n v).kind = 3 := rfl
    dsimp only [T.own, T.kind]
    k_offL
    refine comp_kids (Rout := fun P v t => DatIn P v t.tell) (by assumption) (by assumption) dat_mono (by assumption) (by k_dflt rfl) (by decide) (by k_dflt rfl) (by decide) (by k_dflt rfl) (by k_dflt exact fun _ => rfl) ?_ ?_ ?_
    · refine MethodCall_ ?_
      k_offL
      refine parts_m (by assumption) hN (by k_places) e0 e1 e2 ?_
      intro l vs e P' s3 S3 hs hl hvs
      exact ⟨l, vs, e, P', rfl, S3, hs, hl, hvs⟩
    · intro d hdk P' a I oI C oC D m₂ ys s3 E' hs3 hNd hC hm S3
      refine ccall1 S3 (g_law_told _) (kp_law_told _) ?_
      refine cv_own S3 (.tail _ (.head _)) hC hm ?_
      refine ⟨S3.kin, ?_⟩
      exact IH d hdk a _ hNd _ _ _ s3 _ _ S3 (e3 d hdk) (e4 d hdk) fun r P3 s4 S4 hs4 ho => ⟨P3, S4, hs4, ho⟩
    · intro D ys P' s3 S3 hs3 hys hyl
      k_offL
      refine ⟨_, [], [], _, (by assumption), fun p hp => .tail _ (.tail _ (.tail _ (hs3 p (by k_mem)))), rfl, ?_⟩
      exact DatIn.tuple (.head _) (.cons (.int _ _) (.cons (.tuple (.tail _ (.tail _ (.tail _ (hs3 _ (by k_mem))))) (DatAll.mono (fun p hp => .tail _ (.tail _ (.tail _ (hs3 p hp)))) (by kcf_all))) (.cons (.tuple (.tail _ (.head _)) ((All2.toDat hys).mono (fun p hp => .tail _ (.tail _ (.tail _ hp))))) .nil)))
  case loc n =>
    have hk : (T.loc n).kind = 1 := rfl
    dsimp only [T.own, T.kind]
    k_offL
    refine comp_kids (Rout := fun P v t => DatIn P v t.tell) (by assumption) (by assumption) dat_mono (by assumption) (by k_dflt rfl) (by decide) (by k_dflt rfl) (by decide) (by k_dflt rfl) (by k_dflt exact fun _ => rfl) ?_ ?_ ?_
    · refine MethodCall_ ?_
      k_offL
      refine parts_m (by assumption) hN (by k_places) e0 e1 e2 ?_
      intro l vs e P' s3 S3 hs hl hvs
      exact ⟨l, vs, e, P', rfl, S3, hs, hl, hvs⟩
    · intro d hdk P' a I oI C oC D m₂ ys s3 E' hs3 hNd hC hm S3
      refine ccall1 S3 (g_law_told _) (kp_law_told _) ?_
      refine cv_own S3 (.tail _ (.head _)) hC hm ?_
      refine ⟨S3.kin, ?_⟩
      exact IH d hdk a _ hNd _ _ _ s3 _ _ S3 (e3 d hdk) (e4 d hdk) fun r P3 s4 S4 hs4 ho => ⟨P3, S4, hs4, ho⟩
    · intro D ys P' s3 S3 hs3 hys hyl
      k_offL
      refine ⟨_, [], [], _, (by assumption), fun p hp => .tail _ (.tail _ (.tail _ (hs3 p (by k_mem)))), rfl, ?_⟩
      exact DatIn.tuple (.head _) (.cons (.int _ _) (.cons (.tuple (.tail _ (.tail _ (.tail _ (hs3 _ (by k_mem))))) (DatAll.mono (fun p hp => .tail _ (.tail _ (.tail _ (hs3 p hp)))) (by kcf_all))) (.cons (.tuple (.tail _ (.head _)) ((All2.toDat hys).mono (fun p hp => .tail _ (.tail _ (.tail _ hp))))) .nil)))
  case glob n =>
    have hk : (T.glob n).kind = 2 := rfl
    dsimp only [T.own, T.kind]
    k_offL
    refine comp_kids (Rout := fun P v t => DatIn P v t.tell) (by assumption) (by assumption) dat_mono (by assumption) (by k_dflt rfl) (by decide) (by k_dflt rfl) (by decide) (by k_dflt rfl) (by k_dflt exact fun _ => rfl) ?_ ?_ ?_
    · refine MethodCall_ ?_
      k_offL
      refine parts_m (by assumption) hN (by k_places) e0 e1 e2 ?_
      intro l vs e P' s3 S3 hs hl hvs
      exact ⟨l, vs, e, P', rfl, S3, hs, hl, hvs⟩
    · intro d hdk P' a I oI C oC D m₂ ys s3 E' hs3 hNd hC hm S3
      refine ccall1 S3 (g_law_told _) (kp_law_told _) ?_
      refine cv_own S3 (.tail _ (.head _)) hC hm ?_
      refine ⟨S3.kin, ?_⟩
      exact IH d hdk a _ hNd _ _ _ s3 _ _ S3 (e3 d hdk) (e4 d hdk) fun r P3 s4 S4 hs4 ho => ⟨P3, S4, hs4, ho⟩
    · intro D ys P' s3 S3 hs3 hys hyl
      k_offL
      refine ⟨_, [], [], _, (by assumption), fun p hp => .tail _ (.tail _ (.tail _ (hs3 p (by k_mem)))), rfl, ?_⟩
      exact DatIn.tuple (.head _) (.cons (.int _ _) (.cons (.tuple (.tail _ (.tail _ (.tail _ (hs3 _ (by k_mem))))) (DatAll.mono (fun p hp => .tail _ (.tail _ (.tail _ (hs3 p hp)))) (by kcf_all))) (.cons (.tuple (.tail _ (.head _)) ((All2.toDat hys).mono (fun p hp => .tail _ (.tail _ (.tail _ hp))))) .nil)))
  case call f xs =>
    have hk : (T.call f xs).kind = 8 := rfl
    dsimp only [T.own, T.kind]
    k_offL
    refine comp_kids (Rout := fun P v t => DatIn P v t.tell) (by assumption) (by assumption) dat_mono (by assumption) (by k_dflt rfl) (by decide) (by k_dflt rfl) (by decide) (by k_dflt rfl) (by k_dflt exact fun _ => rfl) ?_ ?_ ?_
    · refine MethodCall_ ?_
      k_offL
      refine parts_m (by assumption) hN (by k_places) e0 e1 e2 ?_
      intro l vs e P' s3 S3 hs hl hvs
      exact ⟨l, vs, e, P', rfl, S3, hs, hl, hvs⟩
    · intro d hdk P' a I oI C oC D m₂ ys s3 E' hs3 hNd hC hm S3
      refine ccall1 S3 (g_law_told _) (kp_law_told _) ?_
      refine cv_own S3 (.tail _ (.head _)) hC hm ?_
      refine ⟨S3.kin, ?_⟩
      exact IH d hdk a _ hNd _ _ _ s3 _ _ S3 (e3 d hdk) (e4 d hdk) fun r P3 s4 S4 hs4 ho => ⟨P3, S4, hs4, ho⟩
    · intro D ys P' s3 S3 hs3 hys hyl
      k_offL
      refine ⟨_, [], [], _, (by assumption), fun p hp => .tail _ (.tail _ (.tail _ (hs3 p (by k_mem)))), rfl, ?_⟩
      exact DatIn.tuple (.head _) (.cons (.int _ _) (.cons (.tuple (.tail _ (.tail _ (.tail _ (hs3 _ (by k_mem))))) (DatAll.mono (fun p hp => .tail _ (.tail _ (.tail _ (hs3 p hp)))) (by kcf_all))) (.cons (.tuple (.tail _ (.head _)) ((All2.toDat hys).mono (fun p hp => .tail _ (.tail _ (.tail _ hp))))) .nil)))
  case seq xs =>
    have hk : (T.seq xs).kind = 9 := rfl
    dsimp only [T.own, T.kind]
    k_offL
    refine comp_kids (Rout := fun P v t => DatIn P v t.tell) (by assumption) (by assumption) dat_mono (by assumption) (by k_dflt rfl) (by decide) (by k_dflt rfl) (by decide) (by k_dflt rfl) (by k_dflt exact fun _ => rfl) ?_ ?_ ?_
    · refine MethodCall_ ?_
      k_offL
      refine parts_m (by assumption) hN (by k_places) e0 e1 e2 ?_
      intro l vs e P' s3 S3 hs hl hvs
      exact ⟨l, vs, e, P', rfl, S3, hs, hl, hvs⟩
    · intro d hdk P' a I oI C oC D m₂ ys s3 E' hs3 hNd hC hm S3
      refine ccall1 S3 (g_law_told _) (kp_law_told _) ?_
      refine cv_own S3 (.tail _ (.head _)) hC hm ?_
      refine ⟨S3.kin, ?_⟩
      exact IH d hdk a _ hNd _ _ _ s3 _ _ S3 (e3 d hdk) (e4 d hdk) fun r P3 s4 S4 hs4 ho => ⟨P3, S4, hs4, ho⟩
    · intro D ys P' s3 S3 hs3 hys hyl
      k_offL
      refine ⟨_, [], [], _, (by assumption), fun p hp => .tail _ (.tail _ (.tail _ (hs3 p (by k_mem)))), rfl, ?_⟩
      exact DatIn.tuple (.head _) (.cons (.int _ _) (.cons (.tuple (.tail _ (.tail _ (.tail _ (hs3 _ (by k_mem))))) (DatAll.mono (fun p hp => .tail _ (.tail _ (.tail _ (hs3 p hp)))) (by kcf_all))) (.cons (.tuple (.tail _ (.head _)) ((All2.toDat hys).mono (fun p hp => .tail _ (.tail _ (.tail _ hp))))) .nil)))
  case cint i =>
    have hk : (T.cint i).kind = 0 := rfl
    dsimp only [T.own, T.kind]
    k_offL
    refine comp_kids (Rout := fun P v t => DatIn P v t.tell) (by assumption) (by assumption) dat_mono (by assumption) (by k_dflt rfl) (by decide) (by k_dflt rfl) (by decide) (by k_dflt rfl) (by k_dflt exact fun _ => rfl) ?_ ?_ ?_
    · refine MethodCall_ ?_
      k_offL
      refine parts_m (by assumption) hN (by k_places) e0 e1 e2 ?_
      intro l vs e P' s3 S3 hs hl hvs
      exact ⟨l, vs, e, P', rfl, S3, hs, hl, hvs⟩
    · intro d hdk P' a I oI C oC D m₂ ys s3 E' hs3 hNd hC hm S3
      refine ccall1 S3 (g_law_told _) (kp_law_told _) ?_
      refine cv_own S3 (.tail _ (.head _)) hC hm ?_
      refine ⟨S3.kin, ?_⟩
      exact IH d hdk a _ hNd _ _ _ s3 _ _ S3 (e3 d hdk) (e4 d hdk) fun r P3 s4 S4 hs4 ho => ⟨P3, S4, hs4, ho⟩
    · intro D ys P' s3 S3 hs3 hys hyl
      k_offL
      refine ⟨_, [], [], _, (by assumption), fun p hp => .tail _ (.tail _ (.tail _ (hs3 p (by k_mem)))), rfl, ?_⟩
      exact DatIn.tuple (.head _) (.cons (.int _ _) (.cons (.tuple (.tail _ (.tail _ (.tail _ (hs3 _ (by k_mem))))) (DatAll.mono (fun p hp => .tail _ (.tail _ (.tail _ (hs3 p hp)))) (by kcf_all))) (.cons (.tuple (.tail _ (.head _)) ((All2.toDat hys).mono (fun p hp => .tail _ (.tail _ (.tail _ hp))))) .nil)))
  case cun =>
    have hk : T.cun.kind = 0 := rfl
    dsimp only [T.own, T.kind]
    k_offL
    refine comp_kids (Rout := fun P v t => DatIn P v t.tell) (by assumption) (by assumption) dat_mono (by assumption) (by k_dflt rfl) (by decide) (by k_dflt rfl) (by decide) (by k_dflt rfl) (by k_dflt exact fun _ => rfl) ?_ ?_ ?_
    · refine MethodCall_ ?_
      k_offL
      refine parts_m (by assumption) hN (by k_places) e0 e1 e2 ?_
      intro l vs e P' s3 S3 hs hl hvs
      exact ⟨l, vs, e, P', rfl, S3, hs, hl, hvs⟩
    · intro d hdk P' a I oI C oC D m₂ ys s3 E' hs3 hNd hC hm S3
      refine ccall1 S3 (g_law_told _) (kp_law_told _) ?_
      refine cv_own S3 (.tail _ (.head _)) hC hm ?_
      refine ⟨S3.kin, ?_⟩
      exact IH d hdk a _ hNd _ _ _ s3 _ _ S3 (e3 d hdk) (e4 d hdk) fun r P3 s4 S4 hs4 ho => ⟨P3, S4, hs4, ho⟩
    · intro D ys P' s3 S3 hs3 hys hyl
      k_offL
      refine ⟨_, [], [], _, (by assumption), fun p hp => .tail _ (.tail _ (.tail _ (hs3 p (by k_mem)))), rfl, ?_⟩
      exact DatIn.tuple (.head _) (.cons (.int _ _) (.cons (.tuple (.tail _ (.tail _ (.tail _ (hs3 _ (by k_mem))))) (DatAll.mono (fun p hp => .tail _ (.tail _ (.tail _ (hs3 p hp)))) (by kcf_all))) (.cons (.tuple (.tail _ (.head _)) ((All2.toDat hys).mono (fun p hp => .tail _ (.tail _ (.tail _ hp))))) .nil)))
  case lam l ps b =>
    have hk : (T.lam l ps b).kind = 7 := rfl
    have hpl : ps.length ≤ 16384 := hps
    dsimp only [T.own, T.kind]
    k_offL
    refine comp_kids (Rout := fun P v t => DatIn P v t.tell) (by assumption) (by assumption) dat_mono (by assumption) (by k_dflt rfl) (by decide) (by k_dflt rfl) (by decide) (by k_dflt rfl) (by k_dflt exact fun _ => rfl) ?_ ?_ ?_
    · refine MethodCall_ ?_
      k_offL
      refine parts_m (by assumption) hN (by k_places) e0 e1 e2 ?_
      intro l vs e P' s3 S3 hs hl hvs
      exact ⟨l, vs, e, P', rfl, S3, hs, hl, hvs⟩
    · intro d hdk P' a I oI C oC D m₂ ys s3 E' hs3 hNd hC hm S3
      refine ccall1 S3 (g_law_told _) (kp_law_told _) ?_
      refine cv_own S3 (.tail _ (.head _)) hC hm ?_
      refine ⟨S3.kin, ?_⟩
      exact IH d hdk a _ hNd _ _ _ s3 _ _ S3 (e3 d hdk) (e4 d hdk) fun r P3 s4 S4 hs4 ho => ⟨P3, S4, hs4, ho⟩
    · intro D ys P' s3 S3 hs3 hys hyl
      k_offL
      refine ⟨_, [], [], _, (by assumption), fun p hp => .tail _ (.tail _ (.tail _ (hs3 p (by k_mem)))), rfl, ?_⟩
      exact DatIn.tuple (.head _) (.cons (.int _ _) (.cons (.tuple (.tail _ (.tail _ (.tail _ (hs3 _ (by k_mem))))) (DatAll.mono (fun p hp => .tail _ (.tail _ (.tail _ (hs3 p hp)))) (by kcf_all))) (.cons (.tuple (.tail _ (.head _)) ((All2.toDat hys).mono (fun p hp => .tail _ (.tail _ (.tail _ hp))))) .nil)))
  case fix ns ls b =>
    have hk : (T.fix ns ls b).kind = 11 := rfl
    have hpl : ns.length ≤ 16384 := hps
    dsimp only [T.own, T.kind]
    k_offL
    refine comp_kids (Rout := fun P v t => DatIn P v t.tell) (by assumption) (by assumption) dat_mono (by assumption) (by k_dflt rfl) (by decide) (by k_dflt rfl) (by decide) (by k_dflt rfl) (by k_dflt exact fun _ => rfl) ?_ ?_ ?_
    · refine MethodCall_ ?_
      k_offL
      refine parts_m (by assumption) hN (by k_places) e0 e1 e2 ?_
      intro l vs e P' s3 S3 hs hl hvs
      exact ⟨l, vs, e, P', rfl, S3, hs, hl, hvs⟩
    · intro d hdk P' a I oI C oC D m₂ ys s3 E' hs3 hNd hC hm S3
      refine ccall1 S3 (g_law_told _) (kp_law_told _) ?_
      refine cv_own S3 (.tail _ (.head _)) hC hm ?_
      refine ⟨S3.kin, ?_⟩
      exact IH d hdk a _ hNd _ _ _ s3 _ _ S3 (e3 d hdk) (e4 d hdk) fun r P3 s4 S4 hs4 ho => ⟨P3, S4, hs4, ho⟩
    · intro D ys P' s3 S3 hs3 hys hyl
      k_offL
      refine ⟨_, [], [], _, (by assumption), fun p hp => .tail _ (.tail _ (.tail _ (hs3 p (by k_mem)))), rfl, ?_⟩
      exact DatIn.tuple (.head _) (.cons (.int _ _) (.cons (.tuple (.tail _ (.tail _ (.tail _ (hs3 _ (by k_mem))))) (DatAll.mono (fun p hp => .tail _ (.tail _ (.tail _ (hs3 p hp)))) (by kcf_all))) (.cons (.tuple (.tail _ (.head _)) ((All2.toDat hys).mono (fun p hp => .tail _ (.tail _ (.tail _ hp))))) .nil)))

theorem told {w : World} {P : Led} (t : T) (a : Addr) (hN : Nd w P a t) (hz : t.size ≤ 4000) : Pure w (2 * t.dep + 4) P (call (.ref 543) [.ref a]) fun P' r => DatIn P' r t.tell :=
  told1 t a hN hz fun d hd a P h => told d a h (by have := size_kid hd; omega)
termination_by t.size
decreasing_by exact size_kid hd
end Mine
end
section
namespace Mine
section
variable {w : World} {c : Cx} {m : Str → Option Value} {own P P₀ : Led} {s : Shared} {E : Value → Shared → Prop}
/-- a while by an invariant and a measure -/
theorem whileR {prog : Program} {A : Around} {env : Env} {test : Expr} {body orelse : List Stmt} {pos : Pos} {Q : Flow → Shared → Prop} (I : Nat → Shared → Prop)
    (turn : ∀ k s, I k s → wpAny (model prog w) A (PySem.isTrue test env (eval test env)) (fun b s₂ => if b = true then wpAny (model prog w) A (execs body env) (fun f s₃ => match f with | .next => ∃ k', k' < k ∧ I k' s₃ | .cont => ∃ k', k' < k ∧ I k' s₃ | .brk => Q .next s₃ | .ret v => Q (.ret v) s₃) (fun _ _ => False) s₂
      else wpAny (model prog w) A (execs orelse env) Q (fun _ _ => False) s₂) (fun _ _ => False) s) (k : Nat) (s : Shared) (h : I k s) : wpAny (model prog w) A (exec (.While test body orelse pos) env) Q (fun _ _ => False) s := by
  suffices all : ∀ n k s, k < n → I k s → codeAny (model prog w) A (.whileLoop test body orelse env) (fun r s' => match r with | .ok f => Q f s' | .error e => cameBackBy (model prog w) A env (fun _ _ => False) e s') s from wpAny_While (all (k + 1) k s (Nat.lt_succ_self _) h)
  intro n
  induction n with
  | zero => intro k s hk; exact absurd hk (Nat.not_lt_zero _)
  | succ n ih =>
    intro k s hk h
    refine codeAny_of_tree ?_
    show wpAny _ A ((whileTurn test body orelse env).onRaise (fun x => do noteFrame x env; theTreesLotGoes x)) _ _ s
    refine wpAny_noted ?_
    simp only [whileTurn]
    refine wpAny_bind (wpAny_mono (turn k s h) (fun b s₂ h₂ => ?_) fun _ _ e => e.elim)
    cases b with
    | false =>
      simp only [Bool.false_eq_true, if_false] at h₂ ⊢
      exact wpAny_bind (wpAny_mono h₂ (fun f s₃ h₄ => wpAny_pure h₄) fun _ _ e => e.elim)
    | true =>
      simp only [if_true] at h₂ ⊢
      refine wpAny_bind (wpAny_mono h₂ (fun f s₃ h₄ => ?_) fun _ _ e => e.elim)
      cases f with
      | next => obtain ⟨k', hlt, hI⟩ := h₄; exact wpAny_pure ⟨rfl, ih k' s₃ (by omega) hI⟩
      | cont => obtain ⟨k', hlt, hI⟩ := h₄; exact wpAny_pure ⟨rfl, ih k' s₃ (by omega) hI⟩
      | brk => exact wpAny_pure h₄
      | ret v => exact wpAny_pure h₄

theorem seqIndex_at {k : Int} {n : Nat} (h0 : 0 ≤ k) (h : k.toNat < n) : seqIndex? k n = some k.toNat := by
  unfold seqIndex?
  have h1 : ¬ k < 0 := by omega
  simp only [h1, if_false]
  first
    | (rw [if_pos (by omega)])
    | (rw [if_neg (by omega)])
    | (simp; omega)
theorem li_item {value slice : Expr} {l : Addr} {xs : List Value} {k : Int} {u : Tok} {v : Value} {Q : Value → Shared → Prop} (hl : s.heap.IsList l xs.toArray) (h0 : 0 ≤ k) (hk : k < 2 ^ 63) (hx : xs[k.toNat]? = some v) (h : Q v s)
    (hs : subscripted slice false (.ref l) (.int k u) = operate [.ref l, .int k u] (getItem (.ref l) (.int k u))) :
    wpAny (model PySem.Challenge.rw_pq1024_01.row.prog w) c.A (subscriptTail value slice (.ref l) (.int k u)) Q E s :=
  tail_any hl.typeIs slot_list_getitem.lookup (wpAny_getItem_list hl h0 hk (by simpa using hx) h) hs
theorem tup_item {value slice : Expr} {l : Addr} {xs : List Value} {k : Int} {u : Tok} {v : Value} {n : Nat} {Q : Value → Shared → Prop} (S : St w c m own P s) (ht : (l, tupOf xs n) ∈ P) (h0 : 0 ≤ k) (hk : k < 2 ^ 63) (hx : xs[k.toNat]? = some v) (h : Q v s)
    (hs : subscripted slice false (.ref l) (.int k u) = operate [.ref l, .int k u] (getItem (.ref l) (.int k u))) :
    wpAny (model PySem.Challenge.rw_pq1024_01.row.prog w) c.A (subscriptTail value slice (.ref l) (.int k u)) Q E s :=
  item_tupleT (l := xs) (j := k.toNat) (S.N.isTup (List.mem_append_right _ ht)) (by omega) hk (by
    have : k.toNat < xs.length := by
      rcases Nat.lt_or_ge k.toNat xs.length with h | h
      · exact h
      · rw [List.getElem?_eq_none h] at hx; cases hx
    exact seqIndex_at h0 this) hx h hs
theorem pop0 {D : Addr} {y : Value} {q : List Value} {n : Nat} {u : Tok} {Q : Value → Shared → Prop} (S : St w c m ((D, listOf (y :: q).toArray n) :: own) P s) (hz : (y :: q).length ≤ sizeLine)
    (h : ∀ s', St w c m ((D, listOf q.toArray (n + 1)) :: own) P s' → Q y s') : wpAny (model PySem.Challenge.rw_pq1024_01.row.prog w) c.A (call (.builtin "list.pop") [.ref D, .int 0 u]) Q E s :=
  kl_popAt (p := []) (y := y) (q := q) (k := 0) S.F S.N rfl (seqIndex_at (k := 0) (n := (y :: q).toArray.size) (Int.le_refl 0) (by simp)) rfl (S.upd rfl) (by simpa using hz) fun h' F' N' => h _ (S.setO rfl (tk := s.toks) F' N')
theorem popL {D : Addr} {y : Value} {q : List Value} {n : Nat} {Q : Value → Shared → Prop} (S : St w c m ((D, listOf (q ++ [y]).toArray n) :: own) P s) (hz : (q ++ [y]).length ≤ sizeLine)
    (h : ∀ s', St w c m ((D, listOf q.toArray (n + 1)) :: own) P s' → Q y s') : wpAny (model PySem.Challenge.rw_pq1024_01.row.prog w) c.A (call (.builtin "list.pop") [.ref D]) Q E s :=
  kl_pop (p := q) (y := y) S.F S.N (by rw [show (q ++ [y]).toArray.toList = q ++ [y] from rfl]; exact kpa_last y q) (S.upd rfl) (by simpa using hz) fun h' F' N' => h _ (S.setO rfl (tk := s.toks) F' N')
theorem ki_setL_set : ∀ {l : List Value} {k : Nat} {v : Value}, k < l.length → ki_setL l k v = some (l.set k v) := by
  intro l
  induction l with
  | nil => intro k v h; exact absurd h (Nat.not_lt_zero _)
  | cons x r ih =>
    intro k v h
    cases k with
    | zero => rfl
    | succ k =>
      have := ih (k := k) (v := v) (Nat.lt_of_succ_lt_succ h)
      unfold ki_setL
      rw [this]
      rfl
theorem setAt {D : Addr} {xs : List Value} {n : Nat} {k : Int} {t : Tok} {v : Value} {Q : Unit → Shared → Prop} (S : St w c m ((D, listOf xs.toArray n) :: own) P s) (h0 : 0 ≤ k) (hk : k < 2 ^ 63) (hl : k.toNat < xs.length)
    (h : ∀ s', St w c m ((D, listOf (xs.set k.toNat v).toArray n) :: own) P s' → Q () s') : wpAny (model PySem.Challenge.rw_pq1024_01.row.prog w) c.A (PySem.setItem (.ref D) (.int k t) v) Q E s :=
  ki_set (q := xs.set k.toNat v) S.F S.N h0 hk (by rw [show xs.toArray.toList = xs from rfl]; exact ki_setL_set hl) (S.upd rfl) fun h' F' N' => h _ (S.setO rfl (tk := s.toks) F' N')
theorem dat_ints {P : Led} : ∀ {vs : List Value} {ns : List Int}, IntsAre vs ns → DatAll P vs (ns.map Dat.int)
  | _, _, .nil => .nil
  | _, _, .cons i t r => .cons (.int i t) (dat_ints r)
theorem ints_ok (ns : List Int) : ∀ d ∈ ns.map Dat.int, kqdOk 8 d = true := by
  intro d hd
  obtain ⟨i, _, rfl⟩ := List.mem_map.mp hd
  rfl
/-- a list of ints against an empty display -/
theorem ne_nil {D l : Addr} {xs : List Value} {n e : Nat} {ns : List Int} {Q : Value → Shared → Prop} (S : St w c m ((D, listOf xs.toArray n) :: own) P s) (hi : IntsAre xs ns) (hl : (l, listOf ([] : List Value).toArray e) ∈ P) (hu : c.A.units + 64 < cLine)
    (h : Q (.bool (!ns.isEmpty)) s) : wpAny (model PySem.Challenge.rw_pq1024_01.row.prog w) c.A (compareOp .NotEq (.ref D) (.ref l)) Q E s := by
  refine kqd_ne (n₁ := []) (n₂ := []) S.N (List.mem_append_left _ (List.Mem.head _)) rfl rfl (dat_ints hi) (fun _ h => nomatch h) (List.mem_append_right _ hl) rfl rfl DatAll.nil (fun _ h => nomatch h) (ints_ok ns) (fun _ h => nomatch h) hu ?_
  have : (decide (ns.map Dat.int = [])) = ns.isEmpty := by cases ns <;> simp
  rw [this]; exact h
theorem eq_nil {D l : Addr} {xs : List Value} {n e : Nat} {ns : List Int} {Q : Value → Shared → Prop} (S : St w c m ((D, listOf xs.toArray n) :: own) P s) (hi : IntsAre xs ns) (hl : (l, listOf ([] : List Value).toArray e) ∈ P) (hu : c.A.units + 64 < cLine)
    (h : Q (.bool ns.isEmpty) s) : wpAny (model PySem.Challenge.rw_pq1024_01.row.prog w) c.A (compareOp .Eq (.ref D) (.ref l)) Q E s := by
  refine kqd_eq (n₁ := []) (n₂ := []) S.N (List.mem_append_left _ (List.Mem.head _)) rfl rfl (dat_ints hi) (fun _ h => nomatch h) (List.mem_append_right _ hl) rfl rfl DatAll.nil (fun _ h => nomatch h) (ints_ok ns) (fun _ h => nomatch h) hu ?_
  have : (decide (ns.map Dat.int = [])) = ns.isEmpty := by cases ns <;> simp
  rw [this]; exact h
theorem set0 {D : Addr} {y : Value} {r : List Value} {n : Nat} {t : Tok} {v : Value} {Q : Unit → Shared → Prop} (S : St w c m ((D, listOf (y :: r).toArray n) :: own) P s)
    (h : ∀ s', St w c m ((D, listOf (v :: r).toArray n) :: own) P s' → Q () s') : wpAny (model PySem.Challenge.rw_pq1024_01.row.prog w) c.A (PySem.setItem (.ref D) (.int 0 t) v) Q E s := setAt S (by decide) (by decide) (by simp) h
theorem lmeth {D : Addr} {its : Array Value} {n : Nat} {name : Str} {id : String} {pl : Sem Bool} {Q : Value × List Value → Shared → Prop} (S : St w c m own P s) (hm : (D, listOf its n) ∈ own) (slot : Slot "list" name id) (hty : typeOf (.builtin id) = pure (.type "method_descriptor"))
    (h : Q (.builtin id, [.ref D]) s) : wpAny (model PySem.Challenge.rw_pq1024_01.row.prog w) c.A (getMethod (.ref D) name pl) Q E s := kl_method S.N (List.mem_append_left _ hm) slot hty h
end
end Mine
end
section
namespace Mine
local macro_rules | `(tactic| k_mem) => `(tactic| with_reducible first | exact List.mem_cons_self | assumption | (refine List.mem_cons_of_mem _ ?_; k_mem))
local macro_rules | `(tactic| k_places) => `(tactic| with_reducible first | exact fun _ h => h | assumption | (intro p hp; k_mem))
local macro_rules | `(tactic| kat_tups) => `(tactic| with_reducible first | exact List.mem_cons_self | (refine List.mem_cons_of_mem _ ?_; kat_tups))
local macro_rules | `(tactic| keq_rows) => `(tactic| with_reducible first | refine LocQ.here ?_ | (refine LocQ.there ?_; keq_rows))
local macro_rules | `(tactic| keq_hits) => `(tactic| with_reducible first | refine SetQ.here ?_ | refine SetQ.hereN ?_ | (refine SetQ.there ?_; keq_hits) | (refine SetQ.thereN ?_; keq_hits))
local macro_rules | `(tactic| fold_lay) => `(tactic| (refine enter (K := hd.heap_39 _) rfl (by assumption) (by k_is) (by k_is) (by omega) (by exact BindsTo.of_eq rfl) (by exact rfl) (by kernel_rfl) ?_ (by assumption)))
local macro_rules | `(tactic| k_allIn) => `(tactic| with_reducible first | exact sl0 | exact sl1 | exact sl2 | exact sl3 | exact sl4)
local macro_rules | `(tactic| k_ownIn) => `(tactic| with_reducible first | exact tl0 | exact tl1 | exact tl2 | exact tl3 | exact Nat.le_trans (Nat.le_of_eq (IntsAre.length (by assumption))) (by assumption))
local macro_rules | `(tactic| k_subL) => `(tactic| with_reducible first | exact g_CONST _ | exact g_LOCAL _ | exact g_GLOBAL _ | exact g_SET_LOCAL _ | exact g_SET_GLOBAL _ | exact g_LAMBDA _ | exact g_FIX _ | exact g_PRIM _ | exact g_UNASSIGNED _ | exact g_Pair _ | exact g_CALL _ | exact g_SEQ _ | exact g_DEFINE _ | exact g_TOP _)
local macro_rules | `(tactic| k_clsL) => `(tactic| with_reducible first
  | ((show wpAny _ _ (eval _ _) _ _ _); first
    | refine Attribute_any_ ?_ (by k_dflt rfl)
    | (refine ev_loc (by assumption) (by assumption) ?_; keq_rows)
    | refine ev_glob (by assumption) (by assumption) (by k_subL) (by kat_tups) ?_
    | (refine ev_int (by assumption) ?_; intro s' tk' S')
    | (refine ev_str (by assumption) ?_; intro s' tk' S')
    | refine List_ ?_
    | refine Subscript_ ?_
    | refine MethodCall_ ?_ (by k_dflt rfl)
    | refine Tuple_ ?_
    | refine callT (by assumption) (by assumption) (gn_tuple _) bt_tuple bt_ne_tuple (by kat_tups) ?_ (by k_dflt rfl)
    | refine wpAny_BinOp ?_
    | refine IfExp_ ?_
    | refine callB2 (by assumption) (by assumption) (gn_isinstance _) bt_isinstance ne_isinstance (by kat_tups) ?_ (by k_dflt rfl) (by k_dflt rfl)
    | refine callB1 (by assumption) (by assumption) (gn_repr _) bt_repr ne_repr (by kat_tups) ?_ (by k_dflt rfl)
    | refine ev_bi (by assumption) (by assumption) (gn_int _) bt_int ne_int (by kat_tups) ?_
    | refine ev_bi (by assumption) (by assumption) (gn_bool _) bt_bool ne_bool (by kat_tups) ?_)
  | ((show wpAny _ _ (exec _ _) _ _ _); first
    | refine wpAny_If ?_
    | refine wpAny_Assign_Name ?_ (by k_dflt rfl)
    | refine wpAny_Return_some ?_
    | refine wpAny_Assign_Subscript ?_ (by k_dflt rfl)
    | refine wpAny_Expr_any ?_ (by k_dflt rfl) (by k_dflt rfl)
    | refine plainObj_wpAny_Assign_Attribute ?_ (by k_dflt rfl))
  | ((show wpAny _ _ (compareOp _ _ _) _ _ _); first
    | refine eq_int_ff (by k_dflt rfl) ?_
    | refine eq_int_tt (by k_dflt rfl) ?_
    | refine in_tup_ff (by assumption) (by k_mem) (.cons _ _ (.cons _ _ .nil)) (by k_dflt rfl) ?_
    | refine in_tup_tt (by assumption) (by k_mem) (.cons _ _ (.cons _ _ .nil)) (by k_dflt rfl) ?_
    | refine wpAny_is_ref_self ?_)
  | ((show wpAny _ _ (getAttr _ _ _) _ _ _); first
    | (refine at_kind (by assumption) (by assumption) (by k_places) (by assumption) ?_; intro s' tk' S')
    | (refine at_setl_number (by assumption) (by assumption) (by k_places) ?_; intro s' tk' S')
    | (refine at_cint (by assumption) (by assumption) (by k_places) ?_; intro s' tk' S')
    | (refine at_cun (by assumption) (by assumption) (by k_places) ?_; intro s' S')
    | (refine at_loc (by assumption) (by assumption) (by k_places) ?_; intro s' tk' S')
    | (refine at_glob (by assumption) (by assumption) (by k_places) ?_; intro s' tk' S')
    | (refine at_lam_label (by assumption) (by assumption) (by k_places) ?_; intro s' tk' S')
    | (refine at_lam_rest (by assumption) (by assumption) (by k_places) ?_; intro s' tk' S')
    | (refine at_lam_params (by assumption) (by assumption) (by k_places) ?_; intro s' pl' vs' e' S' hp' hi')
    | (refine at_fix_numbers (by assumption) (by assumption) (by k_places) ?_; intro s' pl' vs' e' S' hp' hi'))
  | ((show wpAny _ _ (getMethod _ _ _) _ _ _); first
    | refine lmeth (by assumption) (by k_mem) PySem.F.slot_list_pop PySem.F.type_list_pop ?_
    | refine lmeth (by assumption) (by k_mem) PySem.F.slot_list_append PySem.F.type_list_append ?_
    | refine lmeth (by assumption) (by k_mem) PySem.F.slot_list_insert PySem.F.type_list_insert ?_)
  | ((show wpAny _ _ (callWith _ _ _ _ _) _ _ _); first
    | refine callWith_method1 ?_ (by k_dflt rfl) (by k_dflt rfl)
    | refine callWith_method0 ?_)
  | ((show wpAny _ _ (call _ _) _ _ _); first
    | (refine tuple_of (by assumption) (by k_mem) (by k_ownIn) ?_; intro D' s' S')
    | (refine isi_int (by assumption) (by k_mem) ?_; intro s' S')
    | (refine isi_un (by assumption) (by k_mem) ?_; intro s' S')
    | (refine isi_pair (by assumption) ?_; intro s' S')
    | (refine rp_int (by assumption) ?_; intro s' tk' S'))
  | ((show wpAny _ _ (PySem.isTrue _ _ _) _ _ _); first
    | refine wpAny_isTrue_Compare1 ?_ (by k_dflt rfl)
    | refine isTrue_and ?_
    | refine isTrue_and_nil ?_
    | refine isTrue_or ?_
    | refine isTrue_or_nil ?_
    | refine isTrue_plain ?_ (by k_dflt rfl))
  | refine wpAny_execs_cons ?_
  | refine sp1 ?_ (by k_dflt rfl)
  | refine sp0 ?_
  | refine wpAny_truthy_bool ?_
  | refine ite_ff ?_
  | refine ite_tt ?_
  | (refine st_loc (by assumption) (by assumption) ?_; keq_hits; intro s' S')
  | (refine nl (by assumption) ?_ (by k_allIn); intro l' s' S')
  | (refine nt (by assumption) ?_ (by k_allIn); intro l' s' S')
  | refine wpAny_execs_nil ?_
  )
local macro_rules | `(tactic| k_offL) => `(tactic| repeat k_clsL)

def Dk (xs : List Value) : Prop := ∃ ns, IntsAre xs ns ∧ (∀ i ∈ ns, (0 : Int) ≤ i) ∧ xs.length ≤ 25
theorem Dk.fits {xs : List Value} (h : Dk xs) : xs.length ≤ sizeLine := by obtain ⟨_, _, _, h⟩ := h; exact fits_le (by omega)
theorem Dk.tail {x : Value} {xs : List Value} (h : Dk (x :: xs)) : Dk xs := by
  obtain ⟨_, h1, h2, h3⟩ := h
  cases h1 with
  | cons i t r => exact ⟨_, r, fun i hi => h2 i (.tail _ hi), by rw [List.length_cons] at h3; omega⟩
section
variable {w : World} {c : Cx} {m : Str → Option Value} {own P : Led} {s : Shared} {E : Value → Shared → Prop} {Q : Value → Shared → Prop}
theorem ne_nil0 {D l : Addr} {n e : Nat} (S : St w c m ((D, listOf ([] : List Value).toArray n) :: own) P s) (hl : (l, listOf ([] : List Value).toArray e) ∈ P) (hu : c.A.units + 64 < cLine) (h : Q (.bool false) s) :
    wpAny (model PySem.Challenge.rw_pq1024_01.row.prog w) c.A (compareOp .NotEq (.ref D) (.ref l)) Q E s := ne_nil S .nil hl hu h
theorem eq_nil0 {D l : Addr} {n e : Nat} (S : St w c m ((D, listOf ([] : List Value).toArray n) :: own) P s) (hl : (l, listOf ([] : List Value).toArray e) ∈ P) (hu : c.A.units + 64 < cLine) (h : Q (.bool true) s) :
    wpAny (model PySem.Challenge.rw_pq1024_01.row.prog w) c.A (compareOp .Eq (.ref D) (.ref l)) Q E s := eq_nil S .nil hl hu h
theorem ne_nil1 {D l : Addr} {i : Int} {t : Tok} {r : List Value} {ns : List Int} {n e : Nat} (S : St w c m ((D, listOf (.int i t :: r).toArray n) :: own) P s) (hi : IntsAre r ns) (hl : (l, listOf ([] : List Value).toArray e) ∈ P) (hu : c.A.units + 64 < cLine) (h : Q (.bool true) s) :
    wpAny (model PySem.Challenge.rw_pq1024_01.row.prog w) c.A (compareOp .NotEq (.ref D) (.ref l)) Q E s := ne_nil S (.cons i t hi) hl hu h
theorem eq_nil1 {D l : Addr} {i : Int} {t : Tok} {r : List Value} {ns : List Int} {n e : Nat} (S : St w c m ((D, listOf (.int i t :: r).toArray n) :: own) P s) (hi : IntsAre r ns) (hl : (l, listOf ([] : List Value).toArray e) ∈ P) (hu : c.A.units + 64 < cLine) (h : Q (.bool false) s) :
    wpAny (model PySem.Challenge.rw_pq1024_01.row.prog w) c.A (compareOp .Eq (.ref D) (.ref l)) Q E s := eq_nil S (.cons i t hi) hl hu h
theorem own0 {value slice : Expr} {D : Addr} {xs : List Value} {n : Nat} {k : Int} {u : Tok} {v : Value} (S : St w c m ((D, listOf xs.toArray n) :: own) P s) (h0 : 0 ≤ k) (hk : k < 2 ^ 63) (hx : xs[k.toNat]? = some v) (h : Q v s)
    (hs : subscripted slice false (.ref D) (.int k u) = operate [.ref D, .int k u] (getItem (.ref D) (.int k u))) :
    wpAny (model PySem.Challenge.rw_pq1024_01.row.prog w) c.A (subscriptTail value slice (.ref D) (.int k u)) Q E s := li_item (S.isListO (.head _)) h0 hk hx h hs
theorem log2_small {n : Int} (h : n.natAbs < 1000) : n.natAbs.log2 < 9000 := by
  by_cases h0 : n.natAbs = 0
  · rw [h0]; decide
  · have := (Nat.log2_lt h0 (k := 9000)).mpr (Nat.lt_of_lt_of_le h (Nat.le_trans (by decide : 1000 ≤ 2 ^ 10) (Nat.pow_le_pow_right (by decide) (by decide))))
    exact this
theorem modS {a b : Int} {t u : Tok} (S : St w c m own P s) (hb : b ≠ 0) (h : ∀ s' tk, St w c m own P s' → Q (.int (a.fmod b) tk) s') : wpAny (model PySem.Challenge.rw_pq1024_01.row.prog w) c.A (binaryOp .Mod (.int a t) (.int b u)) Q E s := mod_int' hb (h _ _ (S.tok _))
theorem fdivS {a b : Int} {t u : Tok} (S : St w c m own P s) (hb : b ≠ 0) (hl : b.natAbs < 1000) (h : ∀ s' tk, St w c m own P s' → Q (.int (a.fdiv b) tk) s') : wpAny (model PySem.Challenge.rw_pq1024_01.row.prog w) c.A (binaryOp .FloorDiv (.int a t) (.int b u)) Q E s := floordiv_int hb (h _ _ (S.tok _)) (Or.inl (PyProof.noPylong_of_log2 (log2_small hl)))
theorem addS {a b : Int} {t u : Tok} (S : St w c m own P s) (h : ∀ s' tk, St w c m own P s' → Q (.int (a + b) tk) s') : wpAny (model PySem.Challenge.rw_pq1024_01.row.prog w) c.A (binaryOp .Add (.int a t) (.int b u)) Q E s := PySem.P.add_int (h _ _ (S.tok _))
theorem subS {a b : Int} {t u : Tok} (S : St w c m own P s) (h : ∀ s' tk, St w c m own P s' → Q (.int (a - b) tk) s') : wpAny (model PySem.Challenge.rw_pq1024_01.row.prog w) c.A (binaryOp .Sub (.int a t) (.int b u)) Q E s := PySem.P.sub_int (h _ _ (S.tok _))
theorem draw {D : Addr} {xs : List Value} {n : Nat} {many : Int} {u : Tok} (S : St w c m ((D, listOf xs.toArray n) :: own) P s) (hk : Dk xs) (h1 : 0 < many) (h2 : many < 1000) (hdp : c.A.depth + 2 < recursionLimit) (hu : c.A.units + 80 < cLine)
    (ret : ∀ r tk xs' n' s', St w c m ((D, listOf xs'.toArray n') :: own) P s' → Dk xs' → 0 ≤ r → r < many → Q (.int r tk) s') : wpAny (model PySem.Challenge.rw_pq1024_01.row.prog w) c.A (call (.ref 519) [.ref D, .int many u]) Q E s := by
  have X := S.X
  refine wpAny_call ?_
  refine enterM (K := hd.heap_39 _) (cells := [(D, listOf xs.toArray n)]) (rest := own) (P := P) (Out := fun cs P' r => ∃ xs' n' i tk, cs = [(D, listOf xs'.toArray n')] ∧ Dk xs' ∧ r = .int i tk ∧ 0 ≤ i ∧ i < many) rfl S (by k_is) (by k_is) (by omega) (by exact BindsTo.of_eq rfl) (by exact rfl) (by kernel_rfl) ?_ ?_
  · intro c' s' gN hd' hu' S'
    dsimp only [List.map] at S'
    have e1 : c'.A.units + 64 < cLine := by omega
    clear ret S hdp hu hd' hu'
    refine wpAny_execs_cons ?_
    refine whileR (fun k s => ∃ xs n, k = xs.length ∧ Dk xs ∧ St w c' (asg _ [some (.ref D), some (.int many u)]) [(D, listOf xs.toArray n)] P s) ?_ xs.length _ ⟨xs, n, rfl, hk, S'⟩
    clear S' hk
    intro k s1 ⟨xs, n, hk, hD, S1⟩
    subst hk
    obtain ⟨ns, hi, h0, hlen⟩ := id hD
    cases hi with
    | nil =>
      k_offL
      refine ne_nil0 (by assumption) (.head _) e1 ?_
      k_offL
      refine eq_nil0 (by assumption) (.head _) e1 ?_
      k_offL
      exact ⟨_, [_], [], P, St.sub (by assumption) (by k_places), fun _ h => h, (by rfl), _, _, _, _, rfl, hD, rfl, Int.le_refl 0, h1⟩
    | cons i t r =>
      have i0 := h0 i (.head _)
      k_offL
      refine ne_nil1 (by assumption) r (.head _) e1 ?_
      k_offL
      refine own0 (by assumption) (by decide) (by decide) rfl ?_ (by k_dflt rfl)
      k_offL
      refine eq_int ?_
      refine wpAny_truthy_bool ?_
      by_cases hz : i = 0
      · subst hz
        rw [show ((0 : Int) == 0) = true from rfl]
        k_offL
        refine pop0 (by assumption) hD.fits ?_
        intro s' S'
        k_offL
        exact ⟨_, Nat.lt_succ_self _, _, _, rfl, hD.tail, St.sub (by assumption) (by k_places)⟩
      · rw [show (i == 0) = false from beq_eq_false_iff_ne.mpr hz]
        k_offL
        refine eq_nil1 (by assumption) r (.head _) e1 ?_
        k_offL
        refine own0 (by assumption) (by decide) (by decide) rfl ?_ (by k_dflt rfl)
        k_offL
        refine modS (by assumption) (by omega) ?_
        intro s' tk S'
        k_offL
        refine own0 (by assumption) (by decide) (by decide) rfl ?_ (by k_dflt rfl)
        k_offL
        refine fdivS (by assumption) (by omega) (by omega) ?_
        intro s' tk S'
        k_offL
        refine set0 (by assumption) ?_
        intro s' S'
        k_offL
        refine ⟨_, [_], [], P, St.sub (by assumption) (by k_places), fun _ h => h, (by rfl), _, _, _, _, rfl, ⟨_, IntsAre.cons _ _ r, fun j hj => ?_, (by exact hlen)⟩, rfl, ?_, ?_⟩
        · rcases List.mem_cons.mp hj with rfl | hj
          · rw [Int.fdiv_eq_ediv_of_nonneg _ (by omega)]; exact Int.ediv_nonneg i0 (by omega)
          · exact h0 j (.tail _ hj)
        · rw [Int.fmod_eq_emod_of_nonneg _ (by omega)]; exact Int.emod_nonneg _ (by omega)
        · rw [Int.fmod_eq_emod_of_nonneg _ (by omega)]; exact Int.emod_lt_of_pos _ h1
  · intro r cells' P' s' S' hc hs ho
    obtain ⟨xs', n', i, tk, rfl, hD, rfl, h3, h4⟩ := ho
    exact ret _ _ _ _ _ (S'.sub hs) hD h3 h4
end
end Mine
end
section
namespace Mine
theorem bt_len : bootBuiltins (Str.ofString "len") = some (.builtin "len") := by boot_by_name
theorem bt_ne_len : (Str.ofString "len") ≠ "__name__" := by decide
section
variable {w : World} {c : Cx} {m : Str → Option Value} {own P : Led} {s : Shared} {E : Value → Shared → Prop} {Q : Value → Shared → Prop}
theorem set1 {D : Addr} {x y : Value} {r : List Value} {n : Nat} {t : Tok} {v : Value} {Q : Unit → Shared → Prop} (S : St w c m ((D, listOf (x :: y :: r).toArray n) :: own) P s)
    (h : ∀ s', St w c m ((D, listOf (x :: v :: r).toArray n) :: own) P s' → Q () s') : wpAny (model PySem.Challenge.rw_pq1024_01.row.prog w) c.A (PySem.setItem (.ref D) (.int 1 t) v) Q E s := setAt S (by decide) (by decide) (by simp) h
theorem len_P {l : Addr} {xs : List Value} {e : Nat} (S : St w c m own P s) (hl : (l, listOf xs.toArray e) ∈ P) (hz : xs.length ≤ 1000000) (h : ∀ s' tk, St w c m own P s' → Q (.int (xs.length : Nat) tk) s') :
    wpAny (model PySem.Challenge.rw_pq1024_01.row.prog w) c.A (call (.builtin "len") [.ref l]) Q E s := len_list (S.isListP hl) (by simp; omega) (by
      have := h _ (s.toks + 1) (S.tok (s.toks + 1 + 1))
      simpa using this)
theorem len_O {l : Addr} {xs : List Value} {e : Nat} (S : St w c m own P s) (hl : (l, listOf xs.toArray e) ∈ own) (hz : xs.length ≤ 1000000) (h : ∀ s' tk, St w c m own P s' → Q (.int (xs.length : Nat) tk) s') :
    wpAny (model PySem.Challenge.rw_pq1024_01.row.prog w) c.A (call (.builtin "len") [.ref l]) Q E s := len_list (S.isListO hl) (by simp; omega) (by
      have := h _ (s.toks + 1) (S.tok (s.toks + 1 + 1))
      simpa using this)
end
local macro_rules | `(tactic| k_mem) => `(tactic| with_reducible first | exact List.mem_cons_self | assumption | (refine List.mem_cons_of_mem _ ?_; k_mem))
local macro_rules | `(tactic| k_places) => `(tactic| with_reducible first | exact fun _ h => h | assumption | (intro p hp; k_mem))
local macro_rules | `(tactic| kat_tups) => `(tactic| with_reducible first | exact List.mem_cons_self | (refine List.mem_cons_of_mem _ ?_; kat_tups))
local macro_rules | `(tactic| keq_rows) => `(tactic| with_reducible first | refine LocQ.here ?_ | (refine LocQ.there ?_; keq_rows))
local macro_rules | `(tactic| keq_hits) => `(tactic| with_reducible first | refine SetQ.here ?_ | refine SetQ.hereN ?_ | (refine SetQ.there ?_; keq_hits) | (refine SetQ.thereN ?_; keq_hits))
local macro_rules | `(tactic| fold_lay) => `(tactic| (refine enter (K := hd.heap_39 _) rfl (by assumption) (by k_is) (by k_is) (by omega) (by exact BindsTo.of_eq rfl) (by exact rfl) (by kernel_rfl) ?_ (by assumption)))
local macro_rules | `(tactic| k_allIn) => `(tactic| with_reducible first | exact sl0 | exact sl1 | exact sl2 | exact sl3 | exact sl4)
local macro_rules | `(tactic| k_ownIn) => `(tactic| with_reducible first | exact tl0 | exact tl1 | exact tl2 | exact tl3 | exact Nat.le_trans (Nat.le_of_eq (IntsAre.length (by assumption))) (by assumption))
local macro_rules | `(tactic| k_subL) => `(tactic| with_reducible first | exact g_CONST _ | exact g_LOCAL _ | exact g_GLOBAL _ | exact g_SET_LOCAL _ | exact g_SET_GLOBAL _ | exact g_LAMBDA _ | exact g_FIX _ | exact g_PRIM _ | exact g_UNASSIGNED _ | exact g_Pair _ | exact g_CALL _ | exact g_SEQ _ | exact g_DEFINE _ | exact g_TOP _)
local macro_rules | `(tactic| k_clsL) => `(tactic| with_reducible first
  | ((show wpAny _ _ (eval _ _) _ _ _); first
    | refine Attribute_any_ ?_ (by k_dflt rfl)
    | (refine ev_loc (by assumption) (by assumption) ?_; keq_rows)
    | refine ev_glob (by assumption) (by assumption) (by k_subL) (by kat_tups) ?_
    | (refine ev_int (by assumption) ?_; intro s' tk' S')
    | (refine ev_str (by assumption) ?_; intro s' tk' S')
    | refine List_ ?_
    | refine call2 (by assumption) (by assumption) (g_law_draw _) (kp_law_draw _) (by kat_tups) ?_ (by k_dflt rfl) (by k_dflt rfl)
    | refine call2 (by assumption) (by assumption) (g_law_one _) (kp_law_one _) (by kat_tups) ?_ (by k_dflt rfl) (by k_dflt rfl)
    | refine call2 (by assumption) (by assumption) (g_law_new _) (kp_law_new _) (by kat_tups) ?_ (by k_dflt rfl) (by k_dflt rfl)
    | refine callB1 (by assumption) (by assumption) (gn_len _) bt_len bt_ne_len (by kat_tups) ?_ (by k_dflt rfl)
    | refine Subscript_ ?_
    | refine MethodCall_ ?_ (by k_dflt rfl)
    | refine Tuple_ ?_
    | refine callT (by assumption) (by assumption) (gn_tuple _) bt_tuple bt_ne_tuple (by kat_tups) ?_ (by k_dflt rfl)
    | refine wpAny_BinOp ?_
    | refine IfExp_ ?_
    | refine callB2 (by assumption) (by assumption) (gn_isinstance _) bt_isinstance ne_isinstance (by kat_tups) ?_ (by k_dflt rfl) (by k_dflt rfl)
    | refine callB1 (by assumption) (by assumption) (gn_repr _) bt_repr ne_repr (by kat_tups) ?_ (by k_dflt rfl)
    | refine ev_bi (by assumption) (by assumption) (gn_int _) bt_int ne_int (by kat_tups) ?_
    | refine ev_bi (by assumption) (by assumption) (gn_bool _) bt_bool ne_bool (by kat_tups) ?_)
  | ((show wpAny _ _ (exec _ _) _ _ _); first
    | refine wpAny_If ?_
    | refine wpAny_Assign_Name ?_ (by k_dflt rfl)
    | refine wpAny_Return_some ?_
    | refine wpAny_Assign_Subscript ?_ (by k_dflt rfl)
    | refine wpAny_Expr_any ?_ (by k_dflt rfl) (by k_dflt rfl)
    | refine plainObj_wpAny_Assign_Attribute ?_ (by k_dflt rfl))
  | ((show wpAny _ _ (compareOp _ _ _) _ _ _); first
    | refine eq_int_ff (by k_dflt rfl) ?_
    | refine eq_int_tt (by k_dflt rfl) ?_
    | refine in_tup_ff (by assumption) (by k_mem) (.cons _ _ (.cons _ _ .nil)) (by k_dflt rfl) ?_
    | refine in_tup_tt (by assumption) (by k_mem) (.cons _ _ (.cons _ _ .nil)) (by k_dflt rfl) ?_
    | refine wpAny_is_ref_self ?_)
  | ((show wpAny _ _ (getAttr _ _ _) _ _ _); first
    | (refine at_kind (by assumption) (by assumption) (by k_places) (by assumption) ?_; intro s' tk' S')
    | (refine at_setl_number (by assumption) (by assumption) (by k_places) ?_; intro s' tk' S')
    | (refine at_cint (by assumption) (by assumption) (by k_places) ?_; intro s' tk' S')
    | (refine at_cun (by assumption) (by assumption) (by k_places) ?_; intro s' S')
    | (refine at_loc (by assumption) (by assumption) (by k_places) ?_; intro s' tk' S')
    | (refine at_glob (by assumption) (by assumption) (by k_places) ?_; intro s' tk' S')
    | (refine at_lam_label (by assumption) (by assumption) (by k_places) ?_; intro s' tk' S')
    | (refine at_lam_rest (by assumption) (by assumption) (by k_places) ?_; intro s' tk' S')
    | (refine at_lam_params (by assumption) (by assumption) (by k_places) ?_; intro s' pl' vs' e' S' hp' hi')
    | (refine at_fix_numbers (by assumption) (by assumption) (by k_places) ?_; intro s' pl' vs' e' S' hp' hi'))
  | ((show wpAny _ _ (getMethod _ _ _) _ _ _); first
    | refine lmeth (by assumption) (by k_mem) PySem.F.slot_list_pop PySem.F.type_list_pop ?_
    | refine lmeth (by assumption) (by k_mem) PySem.F.slot_list_append PySem.F.type_list_append ?_
    | refine lmeth (by assumption) (by k_mem) PySem.F.slot_list_insert PySem.F.type_list_insert ?_)
  | ((show wpAny _ _ (callWith _ _ _ _ _) _ _ _); first
    | refine callWith_method1 ?_ (by k_dflt rfl) (by k_dflt rfl)
    | refine callWith_method0 ?_)
  | ((show wpAny _ _ (call _ _) _ _ _); first
    | (refine tuple_of (by assumption) (by k_mem) (by k_ownIn) ?_; intro D' s' S')
    | (refine isi_int (by assumption) (by k_mem) ?_; intro s' S')
    | (refine isi_un (by assumption) (by k_mem) ?_; intro s' S')
    | (refine isi_pair (by assumption) ?_; intro s' S')
    | (refine rp_int (by assumption) ?_; intro s' tk' S'))
  | ((show wpAny _ _ (PySem.isTrue _ _ _) _ _ _); first
    | refine wpAny_isTrue_Compare1 ?_ (by k_dflt rfl)
    | refine isTrue_and ?_
    | refine isTrue_and_nil ?_
    | refine isTrue_or ?_
    | refine isTrue_or_nil ?_
    | refine isTrue_plain ?_ (by k_dflt rfl))
  | ((show wpAny _ _ (binaryOp _ _ _) _ _ _); first
    | (refine addS (by assumption) ?_; intro s' tk' S')
    | (refine subS (by assumption) ?_; intro s' tk' S'))
  | ((show wpAny _ _ (subscriptTail _ _ _ _) _ _ _); first
    | refine own0 (by assumption) (by decide) (by decide) (by k_dflt rfl) ?_ (by k_dflt rfl))
  | ((show wpAny _ _ (PySem.setItem _ _ _) _ _ _); first
    | (refine set0 (by assumption) ?_; intro s' S')
    | (refine set1 (by assumption) ?_; intro s' S'))
  | ((show _ ∧ wpAny _ _ _ _ _ _); refine And.intro (St.kin (by assumption)) ?_)
  | refine wpAny_execs_cons ?_
  | refine sp1 ?_ (by k_dflt rfl)
  | refine sp0 ?_
  | refine wpAny_truthy_bool ?_
  | refine ite_ff ?_
  | refine ite_tt ?_
  | (refine st_loc (by assumption) (by assumption) ?_; keq_hits; intro s' S')
  | (refine nl (by assumption) ?_ (by k_allIn); intro l' s' S')
  | (refine nt (by assumption) ?_ (by k_allIn); intro l' s' S')
  | refine wpAny_execs_nil ?_
  )
local macro_rules | `(tactic| k_offL) => `(tactic| repeat k_clsL)

section
variable {w : World} {c : Cx} {m : Str → Option Value} {own P : Led} {s : Shared} {E : Value → Shared → Prop} {Q : Value → Shared → Prop}
theorem new0 {D : Addr} {a b : Int} {t1 t2 u : Tok} {n : Nat} (S : St w c m ((D, listOf [.int a t1, .int b t2].toArray n) :: own) P s) (hdp : c.A.depth + 1 < recursionLimit) (hu : c.A.units + 80 < cLine)
    (ret : ∀ tk tk' n' s', St w c m ((D, listOf [.int (a + 1) tk', .int b t2].toArray n') :: own) P s' → Q (.int (a + 1) tk) s') : wpAny (model PySem.Challenge.rw_pq1024_01.row.prog w) c.A (call (.ref 538) [.ref D, .int 0 u]) Q E s := by
  have X := S.X
  refine wpAny_call ?_
  refine enterM (K := hd.heap_39 _) (cells := [(D, listOf [.int a t1, .int b t2].toArray n)]) (rest := own) (P := P) (Out := fun cs P' r => ∃ n' tk tk', cs = [(D, listOf [.int (a + 1) tk', .int b t2].toArray n')] ∧ r = .int (a + 1) tk) rfl S (by k_is) (by k_is) (by omega) (by exact BindsTo.of_eq rfl) (by exact rfl) (by kernel_rfl) ?_ ?_
  · intro c' s' gN hd' hu' S'
    dsimp only [List.map] at S'
    clear ret S hdp hu hd' hu'
    k_offL
    refine ⟨_, [_], [], P, St.sub (by assumption) (by k_places), fun _ h => h, (by rfl), _, _, _, rfl, rfl⟩
  · intro r cells' P' s' S' hc hs ho
    obtain ⟨n', tk, tk', rfl, rfl⟩ := ho
    exact ret _ _ _ _ (S'.sub hs)
theorem new1 {D : Addr} {a b : Int} {t1 t2 u : Tok} {n : Nat} (S : St w c m ((D, listOf [.int a t1, .int b t2].toArray n) :: own) P s) (hdp : c.A.depth + 1 < recursionLimit) (hu : c.A.units + 80 < cLine)
    (ret : ∀ tk tk' n' s', St w c m ((D, listOf [.int a t1, .int (b + 1) tk'].toArray n') :: own) P s' → Q (.int (b + 1) tk) s') : wpAny (model PySem.Challenge.rw_pq1024_01.row.prog w) c.A (call (.ref 538) [.ref D, .int 1 u]) Q E s := by
  have X := S.X
  refine wpAny_call ?_
  refine enterM (K := hd.heap_39 _) (cells := [(D, listOf [.int a t1, .int b t2].toArray n)]) (rest := own) (P := P) (Out := fun cs P' r => ∃ n' tk tk', cs = [(D, listOf [.int a t1, .int (b + 1) tk'].toArray n')] ∧ r = .int (b + 1) tk) rfl S (by k_is) (by k_is) (by omega) (by exact BindsTo.of_eq rfl) (by exact rfl) (by kernel_rfl) ?_ ?_
  · intro c' s' gN hd' hu' S'
    dsimp only [List.map] at S'
    clear ret S hdp hu hd' hu'
    k_offL
    refine ⟨_, [_], [], P, St.sub (by assumption) (by k_places), fun _ h => h, (by rfl), _, _, _, rfl, rfl⟩
  · intro r cells' P' s' S' hc hs ho
    obtain ⟨n', tk, tk', rfl, rfl⟩ := ho
    exact ret _ _ _ _ (S'.sub hs)
theorem one {D it : Addr} {xs vs : List Value} {n e : Nat} {ns : List Int} (S : St w c m ((D, listOf xs.toArray n) :: own) P s) (hk : Dk xs) (hit : (it, listOf vs.toArray e) ∈ P) (hi : IntsAre vs ns) (h1 : 0 < vs.length) (h2 : vs.length < 1000) (hdp : c.A.depth + 3 < recursionLimit) (hu : c.A.units + 90 < cLine)
    (ret : ∀ r tk xs' n' s', St w c m ((D, listOf xs'.toArray n') :: own) P s' → Dk xs' → r ∈ ns → Q (.int r tk) s') : wpAny (model PySem.Challenge.rw_pq1024_01.row.prog w) c.A (call (.ref 531) [.ref D, .ref it]) Q E s := by
  have X := S.X
  refine wpAny_call ?_
  refine enterM (K := hd.heap_39 _) (cells := [(D, listOf xs.toArray n)]) (rest := own) (P := P) (Out := fun cs P' r => ∃ xs' n' i tk, cs = [(D, listOf xs'.toArray n')] ∧ Dk xs' ∧ r = .int i tk ∧ i ∈ ns) rfl S (by k_is) (by k_is) (by omega) (by exact BindsTo.of_eq rfl) (by exact rfl) (by kernel_rfl) ?_ ?_
  · intro c' s' gN hd' hu' S'
    dsimp only [List.map] at S'
    have e1 : c'.A.depth + 2 < recursionLimit := by omega
    have e2 : c'.A.units + 80 < cLine := by omega
    clear ret S hdp hu hd' hu'
    k_offL
    refine len_P (by assumption) hit (by omega) ?_
    intro s' tk S'
    k_offL
    refine draw (by assumption) hk (by omega) (by omega) e1 e2 ?_
    intro i tk xs' n' s' S' hD h3 h4
    obtain ⟨v, hv⟩ : ∃ v, vs[i.toNat]? = some v := ⟨vs[i.toNat]'(by omega), by simp⟩
    obtain ⟨j, u, rfl, hj⟩ := hi.at _ _ hv
    refine li_item (S'.isListP hit) h3 (by omega) hv ?_ (by k_dflt rfl)
    refine ⟨_, [_], [], P, S', fun _ h => h, (by rfl), _, _, _, _, rfl, hD, rfl, List.mem_of_getElem? hj⟩
  · intro r cells' P' s' S' hc hs ho
    obtain ⟨xs', n', i, tk, rfl, hD, rfl, h3⟩ := ho
    exact ret _ _ _ _ _ (S'.sub hs) hD h3
end
end Mine
end
section
namespace Mine
/-! ## iterators beside a frame -/
def Itr (w : World) (c : Cx) (target : Expr) (own P : Led) (I : Addr) (s : Shared) (n : Nat) (Pt : Nat → Value → Heap → Prop) : Prop :=
  ∃ (fp wr : List Addr) (Md : Nat → Value → Heap → Prop) (Z : Nat → Heap → Prop), KTurns PR w c.A target I fp wr n Pt Md Z ∧ Z 0 s.heap ∧ wr.Nodup ∧ (∀ i h, Z i h → ∀ b ∈ fp, ∃ o, h.get? b = some o) ∧
    (∀ b ∈ wr, c.g.get? b = none ∧ ∀ q ∈ own ++ P, q.1 ≠ b) ∧ (∀ b ∈ fp, b ≠ c.L ∧ b < s.heap.objs.size ∧ ∀ q ∈ own, q.1 ≠ b) ∧
    ∀ (i : Nat) (s' : Shared) (Q : Value → Shared → Prop) (E : Value → Shared → Prop), Z i s'.heap → Q (.ref I) s' → wpAny (model PySem.Challenge.rw_pq1024_01.row.prog w) c.A (pyIter (.ref I)) Q E s'
def wrObjs (wr : List Addr) (h : Heap) : Led := wr.filterMap fun b => (h.get? b).map fun o => (b, o)
theorem mem_wrObjs {wr : List Addr} {h : Heap} {p : Addr × Obj} : p ∈ wrObjs wr h ↔ p.1 ∈ wr ∧ h.get? p.1 = some p.2 := by
  unfold wrObjs
  rw [List.mem_filterMap]
  constructor
  · rintro ⟨b, hb, e⟩
    cases hq : h.get? b with
    | none => rw [hq] at e; cases e
    | some o => rw [hq] at e; cases e; exact ⟨hb, hq⟩
  · rintro ⟨hb, e⟩
    exact ⟨p.1, hb, by rw [e]; rfl⟩
theorem wrObjs_nodup {wr : List Addr} {h : Heap} (hn : wr.Nodup) : ((wrObjs wr h).map (·.1)).Nodup := by
  induction wr with
  | nil => exact List.nodup_nil
  | cons b r ih =>
    have hb := List.nodup_cons.mp hn
    unfold wrObjs
    rw [List.filterMap_cons]
    cases hq : h.get? b with
    | none => exact ih hb.2
    | some o =>
      refine List.nodup_cons.mpr ⟨fun hm => ?_, ih hb.2⟩
      obtain ⟨p, hp, e⟩ := List.mem_map.mp hm
      have := (mem_wrObjs (wr := r) (h := h)).mp hp
      exact hb.1 (by have e' : p.1 = b := e; rw [← e']; exact this.1)
section
variable {w : World} {c : Cx} {m : Str → Option Value} {own P : Led} {s : Shared} {E : Value → Shared → Prop}
/-- the state during a turn: the iterator's own objects stand last among the changing cells, its source among the facts -/
theorem turn_St {s₀ : Shared} {wr fp : List Addr} {m₁ : Str → Option Value} {own₁ P₁ : Led} {s₁ : Shared} {nw : Led} (_S : St w c m own P s₀) (hw : wr.Nodup) (hsub : ∀ b ∈ wr, b ∈ fp) (hfp : ∀ b ∈ fp, b ≠ c.L ∧ ∀ q ∈ own₁, q.1 ≠ b) (hwP : ∀ p ∈ P₁, p.1 ∉ wr)
    (hwn : ∀ b ∈ wr, c.g.get? b = none) (F : Fr c.g c.L s₁.heap m₁) (N : News c.g c.L s₁.heap (own₁ ++ P₁)) (ap : Apart own₁ P₁) (nd : (own₁.map (·.1)).Nodup) (N2 : ∀ p ∈ nw, p.1 ∈ fp ∧ s₁.heap.get? p.1 = some p.2 ∧ c.g.get? p.1 = none)
    (eg : s₁.gens = s₀.gens) (ed : s₁.drawn = s₀.drawn) (eo : s₁.os = s₀.os) :
    St w c m₁ (own₁ ++ wrObjs wr s₁.heap) (nw.filter (fun p => decide (p.1 ∉ wr)) ++ P₁) s₁ := by
  refine ⟨F, fun p hp => ?_, fun q hq p hp => ?_, ?_, _S.X, _S.T, _S.B, _S.hh, _S.fr, eg.trans _S.eg, ed.trans _S.ed, eo.trans _S.eo⟩
  · rcases List.mem_append.mp hp with hp | hp
    · rcases List.mem_append.mp hp with hp | hp
      · exact N p (List.mem_append_left _ hp)
      · have := mem_wrObjs.mp hp
        exact ⟨this.2, (hfp _ (hsub _ this.1)).1, hwn _ this.1⟩
    · rcases List.mem_append.mp hp with hp | hp
      · have := N2 p (List.mem_filter.mp hp).1
        exact ⟨this.2.1, (hfp _ this.1).1, this.2.2⟩
      · exact N p (List.mem_append_right _ hp)
  · rcases List.mem_append.mp hq with hq | hq
    · rcases List.mem_append.mp hp with hp | hp
      · exact fun e => (hfp _ (N2 p (List.mem_filter.mp hp).1).1).2 q hq e.symm
      · exact ap q hq p hp
    · have h1 := mem_wrObjs.mp hq
      rcases List.mem_append.mp hp with hp | hp
      · have h2 := (List.mem_filter.mp hp).2
        exact fun e => by
          have h2' : p.1 ∉ wr := by simpa using h2
          exact h2' (e ▸ h1.1)
      · exact fun e => hwP p hp (e ▸ h1.1)
  · rw [List.map_append]
    refine List.nodup_append.mpr ⟨nd, wrObjs_nodup hw, fun a ha b hb e => ?_⟩
    obtain ⟨q, hq, rfl⟩ := List.mem_map.mp ha
    obtain ⟨p, hp, rfl⟩ := List.mem_map.mp hb
    exact (hfp _ (hsub _ (mem_wrObjs.mp hp).1)).2 q hq e

theorem for_St {env : Env} (henv : env.locals = c.L) {target : Expr} {body : List Stmt} {Q : Flow → Shared → Prop} {I : Addr} {n : Nat} {Pt : Nat → Value → Heap → Prop} (S : St w c m own P s) (hI : Itr w c target own P I s n Pt)
    (J : Nat → (Str → Option Value) → Led → Led → Prop) (h0 : J 0 m own P)
    (step : ∀ i v m₁ own₁ P₁ P₁' W s₁, i < n → Pt i v s₁.heap → J i m₁ own₁ P₁ → St w c m₁ (own₁ ++ W) P₁' s₁ → (∀ p ∈ P₁, p ∈ P₁') →
      wpAny (model PySem.Challenge.rw_pq1024_01.row.prog w) c.A (assign target env v) (fun _ s₂ => wpAny (model PySem.Challenge.rw_pq1024_01.row.prog w) c.A (execs body env) (fun f s₃ => match f with
        | .ret v => Q (.ret v) s₃
        | .brk => Q .next s₃
        | _ => ∃ m₂ own₂ P₂, St w c m₂ (own₂ ++ W) P₂ s₃ ∧ (∀ p ∈ P₁', p ∈ P₂) ∧ J (i + 1) m₂ own₂ P₂) E s₂) E s₁)
    (fin : ∀ m' own' P' s', St w c m' own' P' s' → J n m' own' P' → Q .next s') :
    TurnsAt PySem.Challenge.rw_pq1024_01.row.prog w c.A c.g env target body Q E (.ref I) s := by
  obtain ⟨fp, wr, Md, Z, W, hz, hnd, hio, hwr, hfp, _⟩ := hI
  refine ⟨I, fp, wr, n, Pt, Md, Z, m, own ++ P, fun i m₁ news => ∃ own₁ P₁, news = own₁ ++ P₁ ∧ Apart own₁ P₁ ∧ (own₁.map (·.1)).Nodup ∧ (∀ b ∈ fp, ∀ q ∈ own₁, q.1 ≠ b) ∧ J i m₁ own₁ P₁, rfl, W, by rw [henv]; exact fun h => (hfp _ h).1 rfl,
    fun b hb => (hwr b hb).1, fun p hp hb => (hwr _ hb).2 p hp rfl, hz, by rw [henv]; exact S.F, by rw [henv]; exact S.N, ⟨own, P, rfl, S.ap, S.nd, fun b hb q hq => (hfp b hb).2.2 q hq, h0⟩, ?_, ?_⟩
  · rintro i v m₁ news₁ h₁ tk₁ nw hi hP ⟨own₁, P₁, rfl, ap, nd, hof, hJ⟩ hnw hn1 hn2 hn3 hst F N
    rw [henv] at F N
    have Nr : News c.g c.L h₁ (own₁ ++ P₁) := fun p hp => N p (List.mem_append_right _ hp)
    have N2 : ∀ p ∈ nw, p.1 ∈ fp ∧ h₁.get? p.1 = some p.2 ∧ c.g.get? p.1 = none := fun p hp => ⟨hn1 p hp, hn2 p hp, (N p (List.mem_append_left _ hp)).2.2⟩
    have S₁ := turn_St (s₁ := { s with heap := h₁, toks := tk₁ }) S hnd W.sub (fun b hb => ⟨(hfp b hb).1, hof b hb⟩) (fun p hp => hnw p (List.mem_append_right _ hp)) (fun b hb => (hwr b hb).1) F Nr ap nd N2 rfl rfl rfl
    refine wpAny_mono (step i v m₁ own₁ P₁ _ _ _ hi hP hJ S₁ (fun p hp => List.mem_append_right _ hp)) (fun _ s₂ h₂ => wpAny_mono h₂ (fun f s₃ h₃ => ?_) fun _ _ e => e) fun _ _ e => e
    have done : (∃ m₂ own₂ P₂, St w c m₂ (own₂ ++ wrObjs wr h₁) P₂ s₃ ∧ (∀ p ∈ nw.filter (fun p => decide (p.1 ∉ wr)) ++ P₁, p ∈ P₂) ∧ J (i + 1) m₂ own₂ P₂) →
        LoopStepU c.g env.locals wr nw (fun m' news => ∃ own₁ P₁, news = own₁ ++ P₁ ∧ Apart own₁ P₁ ∧ (own₁.map (·.1)).Nodup ∧ (∀ b ∈ fp, ∀ q ∈ own₁, q.1 ≠ b) ∧ J (i + 1) m' own₁ P₁) { s with heap := h₁, toks := tk₁ } .next s₃ := by
      rintro ⟨m₂, own₂, P₂, S₂, hs₂, hJ₂⟩
      have e3 : s₃ = { ({ s with heap := h₁, toks := tk₁ } : Shared) with heap := s₃.heap, toks := s₃.toks } := by
        have h1 := S₂.eg.trans S.eg.symm
        have h2 := S₂.ed.trans S.ed.symm
        have h3 := S₂.eo.trans S.eo.symm
        cases s₃
        dsimp only at h1 h2 h3
        subst h1 h2 h3
        rfl
      have nwOk : ∀ p ∈ nw, p ∈ (own₂ ++ wrObjs wr h₁) ++ P₂ := fun p hp => by
        by_cases hb : p.1 ∈ wr
        · exact List.mem_append_left _ (List.mem_append_right _ (mem_wrObjs.mpr ⟨hb, hn2 p hp⟩))
        · exact List.mem_append_right _ (hs₂ _ (List.mem_append_left _ (List.mem_filter.mpr ⟨hp, by simpa using hb⟩)))
      have nd2 := S₂.nd
      rw [List.map_append] at nd2
      have nd3 := List.nodup_append.mp nd2
      refine ⟨rfl, s₃.heap, s₃.toks, m₂, own₂ ++ P₂, e3, by rw [henv]; exact S₂.F, ?_, ?_, own₂, P₂, rfl, fun q hq => S₂.ap q (List.mem_append_left _ hq), nd3.1, ?_, hJ₂⟩
      · rw [henv]
        intro p hp
        rcases List.mem_append.mp hp with hp | hp
        · exact S₂.N p (nwOk p hp)
        · rcases List.mem_append.mp hp with hp | hp
          · exact S₂.N p (List.mem_append_left _ (List.mem_append_left _ hp))
          · exact S₂.N p (List.mem_append_right _ hp)
      · intro p hp hb
        obtain ⟨o, ho⟩ := hio _ _ hst _ (W.sub _ hb)
        have hmem : (p.1, o) ∈ wrObjs wr h₁ := mem_wrObjs.mpr ⟨hb, ho⟩
        rcases List.mem_append.mp hp with hp | hp
        · exact nd3.2.2 p.1 (List.mem_map_of_mem hp) p.1 (List.mem_map.mpr ⟨_, hmem, rfl⟩) rfl
        · exact S₂.ap _ (List.mem_append_right _ hmem) p hp rfl
      · intro b hb q hq e
        have hq0 := (S₂.N q (List.mem_append_left _ (List.mem_append_left _ hq))).2.2
        rw [e] at hq0
        by_cases hbw : b ∈ wr
        · obtain ⟨o, ho⟩ := hio _ _ hst _ (W.sub _ hbw)
          have hmem : (b, o) ∈ wrObjs wr h₁ := mem_wrObjs.mpr ⟨hbw, ho⟩
          exact nd3.2.2 q.1 (List.mem_map_of_mem hq) b (List.mem_map.mpr ⟨_, hmem, rfl⟩) e
        · cases hg : h₁.get? b with
          | none =>
            obtain ⟨o, ho⟩ := hio _ _ hst _ hb
            rw [hg] at ho; cases ho
          | some o =>
            have := hs₂ _ (List.mem_append_left _ (List.mem_filter.mpr ⟨hn3 b hb hq0 o hg, by simpa using hbw⟩))
            exact S₂.ap q (List.mem_append_left _ hq) _ this e.symm
    cases f with
    | ret v => exact h₃
    | brk => exact h₃
    | cont => exact done h₃
    | next => exact done h₃
  · rintro h' tk m' news' F N hnw ⟨own₁, P₁, rfl, ap, nd, hof, hJ⟩
    rw [henv] at F N
    exact fin m' own₁ P₁ _ (S.same F N ap nd) hJ
end
end Mine
end
section
namespace Mine
theorem zz1 (b n : Nat) (h : b = n + 4 ∨ b = n + 3 ∨ b = n ∨ b = n + 1) : n ≤ b := by omega
theorem zz2 (b n l1 l2 : Nat) (h : b = n + 4 ∨ b = n + 2 ∨ b = n + 3 ∨ b = n ∨ b = n + 1 ∨ b = l1 ∨ b = l2) : (n ≤ b ∧ b < n + 5) ∨ b = l1 ∨ b = l2 := by omega
theorem zz3 (n : Nat) : [n + 4, n + 3, n, n + 1].Nodup := by
  simp only [List.nodup_cons, List.mem_cons, List.not_mem_nil, or_false, not_or, not_false_eq_true, List.nodup_nil, and_true]
  omega
theorem Itr.mk' {w : World} {c : Cx} {target : Expr} {own P : Led} {I : Addr} {s : Shared} {n : Nat} {Pt : Nat → Value → Heap → Prop} {fp wr : List Addr} {Md : Nat → Value → Heap → Prop} {Z : Nat → Heap → Prop} (W : KTurns PR w c.A target I fp wr n Pt Md Z)
    (self : ∀ (i : Nat) (s' : Shared) (Q : Value → Shared → Prop) (E : Value → Shared → Prop), Z i s'.heap → Q (.ref I) s' → wpAny (model PySem.Challenge.rw_pq1024_01.row.prog w) c.A (pyIter (.ref I)) Q E s')
    (hz : Z 0 s.heap) (hnd : wr.Nodup) (hio : ∀ i h, Z i h → ∀ b ∈ fp, ∃ o, h.get? b = some o) (hwr : ∀ b ∈ wr, c.g.get? b = none ∧ ∀ q ∈ own ++ P, q.1 ≠ b) (hfp : ∀ b ∈ fp, b ≠ c.L ∧ b < s.heap.objs.size ∧ ∀ q ∈ own, q.1 ≠ b) : Itr w c target own P I s n Pt :=
  ⟨fp, wr, Md, Z, W, hz, hnd, hio, hwr, hfp, self⟩
section
variable {w : World} {c : Cx} {m : Str → Option Value} {own P : Led} {s : Shared} {E : Value → Shared → Prop} {Q : Value → Shared → Prop}
theorem St.lo (S : St w c m own P s) : c.L < s.heap.objs.size := S.F.ns.lt
theorem St.freshG (S : St w c m own P s) {b : Addr} (h : s.heap.objs.size ≤ b) : c.g.get? b = none := ktu_new S.F h
theorem St.below (S : St w c m own P s) : ∀ q ∈ own ++ P, q.1 < s.heap.objs.size := fun q hq => Heap.lt_size (S.N q hq).1
theorem St.push (S : St w c m own P s) (o : Obj) : St w c m own P { s with heap := s.heap.push o } :=
  S.same (tk := s.toks) (S.F.push _) (fun p hp => ⟨Heap.get?_push_of_some _ (S.N p hp).1, (S.N p hp).2⟩) S.ap S.nd
theorem src_list {target : Expr} {ax : Addr} {vs : List Value} {e : Nat} (S : St w c m own P s) (hl : (ax, listOf vs.toArray e) ∈ P)
    (h : ∀ I s', St w c m own P s' → Itr w c target own P I s' vs.length (fun i v _ => vs[i]? = some v) → Q (.ref I) s') : wpAny (model PySem.Challenge.rw_pq1024_01.row.prog w) c.A (pyIter (.ref ax)) Q E s := by
  have hax := S.inP hl
  have hlt : ax < s.heap.objs.size := Heap.lt_size hax
  have hne : ax ≠ s.heap.objs.size := Nat.ne_of_lt hlt
  refine wpAny_pyIter_list (S.isListP hl) ?_
  have W := Walks.list (prog := PR) (w := w) S.hh s.heap.objs.size ax hne vs.toArray
  have W' := KTurns.ofWalks (target := target) W (fun i v s Q E st q => letGo_listiter st.1 q)
  simp only [List.getElem?_toArray, List.size_toArray] at W'
  refine h _ _ (S.push _) (Itr.mk' W' (fun i s' Q E => W.self i s' Q E) ?_ ?_ ?_ ?_ ?_)
  · exact ⟨⟨_, Heap.get?_push_size _ rfl, rfl, rfl⟩, (S.isListP hl).at fun o e => Heap.get?_push_of_some _ e⟩
  · simp
  · intro i h st b hb
    have hb' : b = s.heap.objs.size ∨ b = ax := by simpa using hb
    rcases hb' with rfl | rfl
    · obtain ⟨o, e, _⟩ := st.1; exact ⟨o, e⟩
    · obtain ⟨o, e, _⟩ := st.2; exact ⟨o, e⟩
  · intro b hb
    have hb' : b = s.heap.objs.size := by simpa using hb
    subst hb'
    exact ⟨S.freshG (Nat.le_refl _), fun q hq => Nat.ne_of_lt (S.below q hq)⟩
  · intro b hb
    show _ ∧ b < (s.heap.push _).objs.size ∧ _
    rw [Heap.size_push]
    have hb' : b = s.heap.objs.size ∨ b = ax := by simpa using hb
    rcases hb' with rfl | rfl
    · exact ⟨Nat.ne_of_gt S.lo, Nat.lt_succ_self _, fun q hq => Nat.ne_of_lt (S.below q (List.mem_append_left _ hq))⟩
    · exact ⟨(S.N _ (List.mem_append_right _ hl)).2.1, Nat.lt_succ_of_lt hlt, fun q hq => Ne.symm (S.ap q hq _ hl)⟩
theorem src_tup {target : Expr} {ax : Addr} {vs : List Value} {e : Nat} (S : St w c m own P s) (hl : (ax, tupOf vs e) ∈ P)
    (h : ∀ I s', St w c m own P s' → Itr w c target own P I s' vs.length (fun i v _ => vs[i]? = some v) → Q (.ref I) s') : wpAny (model PySem.Challenge.rw_pq1024_01.row.prog w) c.A (pyIter (.ref ax)) Q E s := by
  have hax := S.inP hl
  have ht : s.heap.IsTuple ax vs.toArray := ⟨_, hax, rfl, _, rfl⟩
  have hlt : ax < s.heap.objs.size := Heap.lt_size hax
  have hne : ax ≠ s.heap.objs.size := Nat.ne_of_lt hlt
  refine wpAny_pyIter_tuple ht ?_
  have W := Walks.tuple (prog := PR) (w := w) S.hh s.heap.objs.size ax hne vs.toArray
  have W' := KTurns.ofWalks (target := target) W (fun i v s Q E st q => letGo_tupleiter st.1 q)
  simp only [List.getElem?_toArray, List.size_toArray] at W'
  refine h _ _ (S.push _) (Itr.mk' W' (fun i s' Q E => W.self i s' Q E) ?_ ?_ ?_ ?_ ?_)
  · exact ⟨⟨_, Heap.get?_push_size _ rfl, rfl, rfl⟩, ht.at fun o e => Heap.get?_push_of_some _ e⟩
  · simp
  · intro i h st b hb
    have hb' : b = s.heap.objs.size ∨ b = ax := by simpa using hb
    rcases hb' with rfl | rfl
    · obtain ⟨o, e, _⟩ := st.1; exact ⟨o, e⟩
    · obtain ⟨o, e, _⟩ := st.2; exact ⟨o, e⟩
  · intro b hb
    have hb' : b = s.heap.objs.size := by simpa using hb
    subst hb'
    exact ⟨S.freshG (Nat.le_refl _), fun q hq => Nat.ne_of_lt (S.below q hq)⟩
  · intro b hb
    show _ ∧ b < (s.heap.push _).objs.size ∧ _
    rw [Heap.size_push]
    have hb' : b = s.heap.objs.size ∨ b = ax := by simpa using hb
    rcases hb' with rfl | rfl
    · exact ⟨Nat.ne_of_gt S.lo, Nat.lt_succ_self _, fun q hq => Nat.ne_of_lt (S.below q (List.mem_append_left _ hq))⟩
    · exact ⟨(S.N _ (List.mem_append_right _ hl)).2.1, Nat.lt_succ_of_lt hlt, fun q hq => Ne.symm (S.ap q hq _ hl)⟩
theorem letGo_rangeiter {M : Model} {A : Around} {target : Expr} {I : Addr} {x l st : Int} {v : Value} {Q' : Unit → Shared → Prop} {s' : Shared} (hit : IsRangeIter s'.heap I x l st) (h : Q' () s') :
    wpAny M A (letOwnedTupleGo target (.ref I) v) Q' E s' := by
  unfold letOwnedTupleGo
  cases target <;> first
    | exact wpAny_pure h
    | (cases v <;> first
        | exact wpAny_pure h
        | (refine wpAny_bind (wpAny_load hit ?_)
           dsimp only
           rw [if_neg (by simp)]
           exact wpAny_pure h))
theorem small_range {a b : Int} (h0 : 0 ≤ a) (hab : a ≤ b) (hb : b < 2 ^ 40) : Builtin.Range.rangeSize a b 1 = b - a ∧ Builtin.Range.small a b 1 = true := by
  have e : Builtin.Range.rangeSize a b 1 = b - a := by
    unfold Builtin.Range.rangeSize
    split <;> omega
  refine ⟨e, ?_⟩
  unfold Builtin.Range.small
  rw [e]
  unfold Builtin.Range.rangeFitsLong
  simp
  omega
theorem src_range {target : Expr} {r : Addr} {a b : Int} {t u v : Tok} {k : Nat} (S : St w c m own P s) (hr : IsRange s.heap r a b 1 t u v) (h0 : 0 ≤ a) (hk : b - a = (k : Nat)) (hb : b < 2 ^ 40)
    (h : ∀ I s', St w c m own P s' → Itr w c target own P I s' k (fun i v _ => ∃ t, v = .int (a + (i : Int)) t) → Q (.ref I) s') : wpAny (model PySem.Challenge.rw_pq1024_01.row.prog w) c.A (pyIter (.ref r)) Q E s := by
  have hs := small_range h0 (by omega) hb
  refine wpAny_pyIter_range hr hs.2 ?_
  have W := Walks.range (prog := PR) (w := w) S.hh s.heap.objs.size a 1 k
  simp only [Int.mul_one] at W
  have W' := KTurns.ofWalks (target := target) W (fun i v s Q E st q => letGo_rangeiter st q)
  refine h _ _ (S.push _) (Itr.mk' W' (fun i s' Q E => W.self i s' Q E) ?_ ?_ ?_ ?_ ?_)
  · show (s.heap.push _).get? _ = _
    rw [hs.1, hk]
    have := Heap.get?_push_size s.heap (o := { cls := .type "range_iterator", data := .fields #[rawInt a, rawInt (k : Nat), rawInt 1] }) rfl
    simpa using this
  · simp
  · intro i h st b hb
    have hb' : b = s.heap.objs.size := by simpa using hb
    subst hb'
    exact ⟨_, st⟩
  · intro b hb
    have hb' : b = s.heap.objs.size := by simpa using hb
    subst hb'
    exact ⟨S.freshG (Nat.le_refl _), fun q hq => Nat.ne_of_lt (S.below q hq)⟩
  · intro b hb
    show _ ∧ b < (s.heap.push _).objs.size ∧ _
    rw [Heap.size_push]
    have hb' : b = s.heap.objs.size := by simpa using hb
    subst hb'
    exact ⟨Nat.ne_of_gt S.lo, Nat.lt_succ_self _, fun q hq => Nat.ne_of_lt (S.below q (List.mem_append_left _ hq))⟩
theorem src_zipL {elts : List Expr} {kk : Nat} {pos : Pos} {l1 l2 : Addr} {xs ys : List Value} {e1 e2 : Nat} (S : St w c m own P s) (hl1 : (l1, listOf xs.toArray e1) ∈ P) (hl2 : (l2, listOf ys.toArray e2) ∈ P)
    (h : ∀ I s', St w c m own P s' → Itr w c (.Tuple elts kk pos) own P I s' (min xs.length ys.length) (fun i v h => ∃ T x y, v = .ref T ∧ xs[i]? = some x ∧ ys[i]? = some y ∧ h.IsTuple T #[x, y]) → Q (.ref I) s') :
    wpAny (model PySem.Challenge.rw_pq1024_01.row.prog w) c.A (call (.type "zip") [.ref l1, .ref l2]) (fun xv s₁ => wpAny (model PySem.Challenge.rw_pq1024_01.row.prog w) c.A (pyIter xv) Q E s₁) E s := by
  have h1 := S.isListP hl1
  have h2 := S.isListP hl2
  have lt1 : l1 < s.heap.objs.size := Heap.lt_size (S.inP hl1)
  have lt2 : l2 < s.heap.objs.size := Heap.lt_size (S.inP hl2)
  have D : ZipApart (s.heap.objs.size + 4) (s.heap.objs.size + 2) (s.heap.objs.size + 3) s.heap.objs.size (s.heap.objs.size + 1) l1 l2 := ktu_apart _ _ _ lt1 lt2
  refine call_zip_2 h1 h2 fun h' hz hTI hTO hi1 hi2 hsz hk => ?_
  refine wpAny_pyIter_zip hz ?_
  have WT := (WalksT.zip2 (prog := PR) (w := w) S.hh _ _ _ _ _ _ _ D xs.toArray ys.toArray).toU
  have S' : St w c m own P { s with heap := h' } := S.same (tk := s.toks) (S.F.keeps hk) (S.N.grown hk) S.ap S.nd
  have W' := KTurns.ofWalksU (elts := elts) (k := kk) (pos := pos) WT
  have e : (fun (i : Nat) (v : Value) (h : Heap) => ∃ T vals, v = .ref T ∧ (∃ x y, xs.toArray[i]? = some x ∧ ys.toArray[i]? = some y ∧ vals = #[x, y]) ∧ h.IsTuple T vals) = fun i v h => ∃ T x y, v = .ref T ∧ xs[i]? = some x ∧ ys[i]? = some y ∧ h.IsTuple T #[x, y] := by
    funext i v h
    apply propext
    constructor
    · rintro ⟨T, vals, a, ⟨x, y, b, c, rfl⟩, d⟩
      exact ⟨T, x, y, a, by simpa using b, by simpa using c, d⟩
    · rintro ⟨T, x, y, a, b, c, d⟩
      exact ⟨T, _, a, ⟨x, y, by simpa using b, by simpa using c, rfl⟩, d⟩
  rw [e] at W'
  simp only [List.size_toArray] at W'
  refine h _ _ S' (Itr.mk' W' (fun i s' Q E => WT.self i s' Q E) ?_ ?_ ?_ ?_ ?_)
  · exact ⟨hz, hTI, ⟨_, _, hTO⟩, hi1, hi2, h1.at fun o e => hk l1 o e, h2.at fun o e => hk l2 o e⟩
  · exact zz3 _
  · rintro i h ⟨hz, hTI, ⟨a, b, hTO⟩, ⟨o1, ho1, _, _⟩, ⟨o2, ho2, _, _⟩, ⟨o3, ho3, _⟩, ⟨o4, ho4, _⟩⟩ b hb
    have hb' : b = s.heap.objs.size + 4 ∨ b = s.heap.objs.size + 2 ∨ b = s.heap.objs.size + 3 ∨ b = s.heap.objs.size ∨ b = s.heap.objs.size + 1 ∨ b = l1 ∨ b = l2 := by simpa using hb
    rcases hb' with rfl | rfl | rfl | rfl | rfl | rfl | rfl
    · exact ⟨_, hz⟩
    · exact ⟨_, hTI⟩
    · exact ⟨_, hTO⟩
    · exact ⟨_, ho1⟩
    · exact ⟨_, ho2⟩
    · exact ⟨_, ho3⟩
    · exact ⟨_, ho4⟩
  · intro b hb
    have hb' : b = s.heap.objs.size + 4 ∨ b = s.heap.objs.size + 3 ∨ b = s.heap.objs.size ∨ b = s.heap.objs.size + 1 := by simpa using hb
    have hge : s.heap.objs.size ≤ b := zz1 _ _ hb'
    exact ⟨S.freshG hge, fun q hq => Nat.ne_of_lt (Nat.lt_of_lt_of_le (S.below q hq) hge)⟩
  · intro b hb
    have hb' : b = s.heap.objs.size + 4 ∨ b = s.heap.objs.size + 2 ∨ b = s.heap.objs.size + 3 ∨ b = s.heap.objs.size ∨ b = s.heap.objs.size + 1 ∨ b = l1 ∨ b = l2 := by simpa using hb
    show _ ∧ b < h'.objs.size ∧ _
    rw [hsz]
    have hge := zz2 _ _ _ _ hb'
    rcases hge with ⟨hge, hle⟩ | rfl | rfl
    · refine ⟨Nat.ne_of_gt (Nat.lt_of_lt_of_le S.lo hge), hle, fun q hq => Nat.ne_of_lt (Nat.lt_of_lt_of_le (S.below q (List.mem_append_left _ hq)) hge)⟩
    · exact ⟨(S.N _ (List.mem_append_right _ hl1)).2.1, Nat.lt_of_lt_of_le lt1 (Nat.le_add_right _ _), fun q hq => Ne.symm (S.ap q hq _ hl1)⟩
    · exact ⟨(S.N _ (List.mem_append_right _ hl2)).2.1, Nat.lt_of_lt_of_le lt2 (Nat.le_add_right _ _), fun q hq => Ne.symm (S.ap q hq _ hl2)⟩
end
end Mine
end
section
namespace Mine
section
variable {w : World} {c : Cx} {m : Str → Option Value} {own P : Led} {s : Shared}
theorem St.perm {own' : Led} (S : St w c m own P s) (h : own.Perm own') : St w c m own' P s :=
  ⟨S.F, fun p hp => S.N p ((List.mem_append.mp hp).elim (fun q => List.mem_append_left _ (h.mem_iff.mpr q)) fun q => List.mem_append_right _ q), fun q hq p hp => S.ap q (h.mem_iff.mpr hq) p hp, (h.map (·.1)).nodup_iff.mp S.nd, S.X, S.T, S.B, S.hh, S.fr, S.eg, S.ed, S.eo⟩
/-- one own cell is changed -/
theorem St.put {d : Addr} {o o' : Obj} {pre post : Led} {h' : Heap} {tk : Nat} (S : St w c m (pre ++ (d, o) :: post) P s) (hk : ∀ b ob, b ≠ d → s.heap.get? b = some ob → h'.get? b = some ob) (hd' : h'.get? d = some o') :
    St w c m (pre ++ (d, o') :: post) P { s with heap := h', toks := tk } := by
  have S₁ := S.perm (List.perm_middle)
  have hdm := S₁.N (d, o) (.head _)
  have F' : Fr c.g c.L h' m := ⟨S.F.ns.at' fun ob e => hk _ ob (Ne.symm hdm.2.1) e, fun b ob e => hk b ob (fun q => by rw [q] at e; rw [hdm.2.2] at e; cases e) (S.F.keep b ob e), S.F.above⟩
  have N' : News c.g c.L h' ((d, o') :: ((pre ++ post) ++ P)) := by
    intro p hp
    rcases List.mem_cons.mp hp with rfl | hp
    · exact ⟨hd', hdm.2⟩
    · have z := S₁.N p (.tail _ hp)
      refine ⟨hk _ _ ?_ z.1, z.2⟩
      rcases List.mem_append.mp hp with hp | hp
      · exact fun e => (List.nodup_cons.mp S₁.nd).1 (List.mem_map.mpr ⟨p, hp, e⟩)
      · exact S₁.ap _ (.head _) p hp
  exact (S₁.setO rfl (tk := tk) F' N').perm (List.perm_middle).symm
/-- objects outside the frame's own change -/
theorem St.out {h' : Heap} {tk : Nat} {wr : List Addr} (S : St w c m own P s) (hk : ∀ b ob, b ∉ wr → s.heap.get? b = some ob → h'.get? b = some ob) (hL : c.L ∉ wr) (hg : ∀ b ∈ wr, c.g.get? b = none) (ho : ∀ q ∈ own ++ P, q.1 ∉ wr) :
    St w c m own P { s with heap := h', toks := tk } :=
  S.same ⟨S.F.ns.at' fun ob e => hk _ ob hL e, fun b ob e => hk b ob (fun q => by rw [hg b q] at e; cases e) (S.F.keep b ob e), S.F.above⟩ (fun p hp => ⟨hk _ _ (ho p hp) (S.N p hp).1, (S.N p hp).2⟩) S.ap S.nd
end

def Stage (w : World) (A : Around) (env : Env) (ifs : List Expr) (elt : Expr) (K : Option Value → Shared → Prop) (E : Value → Shared → Prop) (s : Shared) : Prop :=
  match ifs with
  | [] => wpAny (model PySem.Challenge.rw_pq1024_01.row.prog w) A (eval elt env) (fun y s' => K (some y) s') E s
  | t :: _ => wpAny (model PySem.Challenge.rw_pq1024_01.row.prog w) A (PySem.isTrue t env (eval t env)) (fun ok s₃ => if ok = true then wpAny (model PySem.Challenge.rw_pq1024_01.row.prog w) A (eval elt env) (fun y s' => K (some y) s') E s₃ else K none s₃) E s
theorem Stage.mono {w : World} {A : Around} {env : Env} {ifs : List Expr} {elt : Expr} {K K' : Option Value → Shared → Prop} {E : Value → Shared → Prop} {s : Shared} (h : Stage w A env ifs elt K E s) (hk : ∀ o s', K o s' → K' o s') : Stage w A env ifs elt K' E s := by
  cases ifs with
  | nil => exact wpAny_mono h (fun y s' h' => hk _ _ h') fun _ _ e => e
  | cons t r => exact wpAny_mono h (fun ok s₃ h₃ => by
      cases ok with
      | true => exact wpAny_mono h₃ (fun y s' h' => hk _ _ h') fun _ _ e => e
      | false => exact hk _ _ h₃) fun _ _ e => e
theorem stage_loop {w : World} {A : Around} {target iter elt : Expr} {ifs : List Expr} (hifs : ifs.length ≤ 1) {scope : Scope} {pos : Pos} {it acc : Value} {env : Env} {R : Result → Shared → Prop} (I : Nat → Shared → Prop)
    (turn : ∀ n s, I n s → wpAny (model PySem.Challenge.rw_pq1024_01.row.prog w) A (pyNext it) (fun r s₁ => match r with
      | none => R (.ok .next) s₁
      | some v => wpAny (model PySem.Challenge.rw_pq1024_01.row.prog w) A (letOwnedTupleGo target it v) (fun _ s₀ => wpAny (model PySem.Challenge.rw_pq1024_01.row.prog w) A (assign target env v) (fun _ s₂ =>
          Stage w A env ifs elt (fun o s₄ => match o with
            | some x => wpAny (model PySem.Challenge.rw_pq1024_01.row.prog w) A (call (.builtin "list.append") [acc, x]) (fun _ s₅ => ∃ m, m < n ∧ I m s₅) (notedBy (model PySem.Challenge.rw_pq1024_01.row.prog w) A env fun e s' => R (.error e) s') s₄
            | none => ∃ m, m < n ∧ I m s₄) (notedBy (model PySem.Challenge.rw_pq1024_01.row.prog w) A env fun e s' => R (.error e) s') s₂)
          (notedBy (model PySem.Challenge.rw_pq1024_01.row.prog w) A env fun e s' => R (.error e) s') s₀) (notedBy (model PySem.Challenge.rw_pq1024_01.row.prog w) A env fun e s' => R (.error e) s') s₁) (notedBy (model PySem.Challenge.rw_pq1024_01.row.prog w) A env fun e s' => R (.error e) s') s)
    (n : Nat) (s : Shared) (h : I n s) : codeAny (model PySem.Challenge.rw_pq1024_01.row.prog w) A (.compLoop (.ListComp elt [⟨target, iter, ifs, 0⟩] scope pos) 0 it acc env) R s := by
  match ifs, hifs with
  | [], _ => exact kcp_loop I turn n h
  | [t], _ => exact kct_loop I turn n h

section
variable {w : World} {c : Cx} {m : Str → Option Value} {own P : Led} {s : Shared} {E : Value → Shared → Prop}
theorem comp_core {target elt iter : Expr} {ifs : List Expr} {scope : Scope} {cl : List (Str × Addr)} {pos : Pos} {env : Env} {I : Addr} {n : Nat} {Pt : Nat → Value → Heap → Prop} {RR : Value → Addr → Result → Shared → Prop}
    (hifs : ifs.length ≤ 1) (hcell : ∀ y ∈ scope.names, y.2 ≠ .cell) (hkind : scope.kind = .function) (S : St w c m own P s) (hI : Itr w c target own P I s n Pt) (hz : n ≤ 1000000)
    (G : Nat → (Str → Option Value) → Prop)
    (J : Nat → Led → Led → List Value → Prop)
    (asg : ∀ i v C m₁ own₁ P₁ ys (s₁ : Shared) (Q : Unit → Shared → Prop) (E : Value → Shared → Prop), i < n → Pt i v s₁.heap → J i own₁ P₁ ys → (∀ p ∈ P₁, s₁.heap.get? p.1 = some p.2) → s₁.heap.Ns C m₁ → (∀ h' tk m₂, h'.Ns C m₂ → G i m₂ → (∀ b o, b ≠ C → s₁.heap.get? b = some o → h'.get? b = some o) → Q () { s₁ with heap := h', toks := tk }) →
      wpAny (model PySem.Challenge.rw_pq1024_01.row.prog w) c.A (assign target (compEnvC scope cl C env) v) Q E s₁)
    (h0 : J 0 own P [])
    (step : ∀ i own₁ P₁ P₁' tl C oC m₂ ys s₂ E', i < n → J i own₁ P₁ ys → G i m₂ → LCg.NsObj oC m₂ → (C, oC) ∈ tl → St w c m (own₁ ++ tl) P₁' s₂ → (∀ p ∈ P₁, p ∈ P₁') →
      Stage w c.A (compEnvC scope cl C env) ifs elt (fun o s₄ => ∃ own₂ P₂, St w c m (own₂ ++ tl) P₂ s₄ ∧ (∀ p ∈ P₁', p ∈ P₂) ∧ J (i + 1) own₂ P₂ (ys ++ o.toList)) E' s₂)
    (hRR : ∀ D C oC m' own' P' ys s', LCg.NsObj oC m' → St w c m ((C, oC) :: own') ((D, LCg.lst ys) :: P') s' → J n own' P' ys → RR (.ref D) C (.ok .next) s') :
    wpAny (model PySem.Challenge.rw_pq1024_01.row.prog w) c.A (newList []) (fun acc s₃ => wpAny (model PySem.Challenge.rw_pq1024_01.row.prog w) c.A (newFunctionEnv scope env.globals cl [] env.qual none .none (some env)) (fun cenv s₄ =>
      codeAny (model PySem.Challenge.rw_pq1024_01.row.prog w) c.A (.compStart (.ListComp elt [⟨target, iter, ifs, 0⟩] scope pos) 0 (.ref I) acc { cenv with scope := relabel scope env }) (RR acc cenv.locals) s₄) E s₃) E s := by
  obtain ⟨fp, wr, Md, Z, W, hz0, hnd, hio, hwr, hfp, self⟩ := hI
  refine wpAny_newObj_type (wpAny_newFunctionEnv hcell (by intro y hy; simp at hy) (fun h₁ hns₁ hsb₁ => ?_) hkind)
  dsimp only at hns₁ hsb₁ ⊢
  generalize hH2 : s.heap.push { cls := .type "list", dict := none, data := .seq ([] : List Value).toArray } = H2 at hns₁ hsb₁ ⊢
  have hC : H2.objs.size = s.heap.objs.size + 1 := by rw [← hH2, Heap.size_push]
  have hDC : s.heap.objs.size ≠ H2.objs.size := by rw [hC]; exact Nat.ne_of_lt (Nat.lt_succ_self _)
  have below : ∀ b, b < s.heap.objs.size → b ≠ H2.objs.size ∧ b ≠ s.heap.objs.size := fun b hb => ⟨by rw [hC]; exact Nat.ne_of_lt (Nat.lt_succ_of_lt hb), Nat.ne_of_lt hb⟩
  have old : ∀ b o, s.heap.get? b = some o → h₁.get? b = some o := fun b o e => hsb₁.extBut b o (below b (Heap.lt_size e)).1 (Heap.get?_push_of_some _ (hH2 ▸ Heap.get?_push_of_some _ e))
  have hacc : h₁.get? s.heap.objs.size = some (LCg.lst []) := hsb₁.extBut _ _ hDC (Heap.get?_push_of_some _ (hH2 ▸ Heap.get?_push_size _ rfl))
  have hD₀ := S.freshG (Nat.le_refl s.heap.objs.size)
  have hC₀ : c.g.get? H2.objs.size = none := S.freshG (by rw [hC]; exact Nat.le_succ _)
  have hDL : s.heap.objs.size ≠ c.L := Ne.symm (below c.L S.lo).2
  have hCL : H2.objs.size ≠ c.L := Ne.symm (below c.L S.lo).1
  have hDf : s.heap.objs.size ∉ fp := fun hb => Nat.lt_irrefl _ (hfp _ hb).2.1
  have hCf : H2.objs.size ∉ fp := fun hb => by have := (hfp _ hb).2.1; rw [hC] at this; exact Nat.lt_irrefl _ (Nat.lt_of_succ_lt this)
  obtain ⟨oC, heC, hoC⟩ := LCg.ns_obj hns₁
  have hLw : c.L ∉ wr := fun h => (hfp _ (W.sub _ h)).1 rfl
  have hgw : ∀ b ∈ wr, c.g.get? b = none := fun b hb => (hwr b hb).1
  generalize hDn : s.heap.objs.size = D at *
  generalize hCn : H2.objs.size = C at *
  have S₁ : St w c m (own ++ [(C, oC), (D, LCg.lst [])]) P { s with heap := h₁, toks := s.toks + ([] : List (Str × Value)).length } := by
    refine S.same (S.F.keeps old) (fun p hp => ?_) (fun q hq p hp => ?_) ?_
    · rcases List.mem_append.mp hp with hp | hp
      · rcases List.mem_append.mp hp with hp | hp
        · have z := S.N p (List.mem_append_left _ hp); exact ⟨old _ _ z.1, z.2⟩
        · rcases List.mem_cons.mp hp with rfl | hp
          · exact ⟨heC, hCL, hC₀⟩
          · rw [List.mem_singleton.mp hp]; exact ⟨hacc, hDL, hD₀⟩
      · have z := S.N p (List.mem_append_right _ hp); exact ⟨old _ _ z.1, z.2⟩
    · rcases List.mem_append.mp hq with hq | hq
      · exact S.ap q hq p hp
      · have hb := below p.1 (by rw [← hDn]; exact S.below p (List.mem_append_right _ hp))
        rcases List.mem_cons.mp hq with rfl | hq
        · exact hb.1
        · rw [List.mem_singleton.mp hq]; exact hb.2
    · rw [List.map_append]
      refine List.nodup_append.mpr ⟨S.nd, by simp only [List.map_cons, List.map_nil, List.nodup_cons, List.mem_singleton, List.not_mem_nil, not_false_eq_true, List.nodup_nil, and_true]; exact Ne.symm hDC, fun a ha b hb e => ?_⟩
      obtain ⟨q, hq, rfl⟩ := List.mem_map.mp ha
      have hbl := below q.1 (by rw [← hDn]; exact S.below q (List.mem_append_left _ hq))
      have hb' : b = C ∨ b = D := by simpa using hb
      rcases hb' with rfl | rfl
      · exact hbl.1 e
      · exact hbl.2 e
  have hz1 : Z 0 h₁ := W.frame _ _ _ hz0 fun b _ o e => old b o e
  have loop : ∀ s₃ : Shared, s₃ = { s with heap := h₁, toks := s.toks + ([] : List (Str × Value)).length } →
      codeAny (model PySem.Challenge.rw_pq1024_01.row.prog w) c.A (.compLoop (.ListComp elt [⟨target, iter, ifs, 0⟩] scope pos) 0 (.ref I) (.ref D) (compEnvC scope cl C env)) (RR (.ref D) C) s₃ := by
    rintro s₃ rfl
    refine stage_loop hifs (fun k s' => ∃ i own₁ P₁ oC m₁ ys, St w c m (own₁ ++ [(C, oC), (D, LCg.lst ys)]) P₁ s' ∧ LCg.NsObj oC m₁ ∧ Z i s'.heap ∧ (∀ b ∈ fp, ∀ q ∈ own₁, q.1 ≠ b) ∧ (∀ p ∈ P₁, p.1 ∉ wr) ∧ J i own₁ P₁ ys ∧ ys.length ≤ i ∧ i ≤ n ∧ k = n + 1 - i) ?_ (n + 1) _
      ⟨0, own, P, oC, _, [], S₁, hoC, hz1, fun b hb q hq => (hfp b hb).2.2 q hq, fun p hp hb => (hwr _ hb).2 p (List.mem_append_right _ hp) rfl, h0, Nat.le_refl _, Nat.zero_le _, rfl⟩
    rintro k s' ⟨i, own₁, P₁, oC, m₁, ys, S', hoC, hz', hof, hPw, hJ, hyl, hi, rfl⟩
    have offw : ∀ q ∈ (own₁ ++ [(C, oC), (D, LCg.lst ys)]) ++ P₁, q.1 ∉ wr := fun q hq hb => by
      rcases List.mem_append.mp hq with hq | hq
      · rcases List.mem_append.mp hq with hq | hq
        · exact hof _ (W.sub _ hb) q hq rfl
        · rcases List.mem_cons.mp hq with rfl | hq
          · exact hCf (W.sub _ hb)
          · rw [List.mem_singleton.mp hq] at hb; exact hDf (W.sub _ hb)
      · exact hPw q hq hb
    by_cases hlt : i < n
    · refine W.item i _ _ _ hlt hz' fun v h₂ tk₂ hMd hk₂ => ?_
      refine W.go i v _ _ _ hMd fun h₃ hP hz₃ hk₃ => ?_
      have S₃ := S'.out (tk := tk₂) (fun b ob hb e => hk₃ b ob hb (hk₂ b ob hb e)) hLw hgw offw
      have hCz : h₃.get? C = some oC := (S₃.N (C, oC) (List.mem_append_left _ (List.mem_append_right _ (.head _)))).1
      refine asg i v C m₁ own₁ P₁ ys _ _ _ hlt hP hJ (fun p hp => S₃.inP hp) (hoC.ns hCz) fun h₄ tk₄ m₂ hns₄ hG hk₄ => ?_
      obtain ⟨oC', heC', hoC'⟩ := LCg.ns_obj hns₄
      have S₄ := S₃.put (tk := tk₄) hk₄ heC'
      have hz₄ : Z (i + 1) h₄ := W.frame _ _ _ hz₃ fun b hb o e => hk₄ b o (fun q => hCf (q ▸ hb)) e
      have Nown : News c.g c.L h₄ (PyProof.Rows.ownOf c.g fp h₄) := news_ownOf fun hb => (hfp _ hb).1 rfl
      have S₅ := turn_St (s₁ := { s' with heap := h₄, toks := tk₄ }) (nw := PyProof.Rows.ownOf c.g fp h₄) S₄ hnd W.sub (fun b hb => ⟨(hfp b hb).1, fun q hq => ?_⟩) hPw hgw S₄.F S₄.N S₄.ap S₄.nd (fun p hp => ⟨ownOf_sub p hp, (Nown p hp).1, (Nown p hp).2.2⟩) rfl rfl rfl
      · rw [List.append_assoc] at S₅
        refine (step i own₁ P₁ _ _ C oC' m₂ ys _ _ hlt hJ hG hoC' (.head _) S₅ (fun p hp => List.mem_append_right _ hp)).mono fun o s₆ h₆ => ?_
        obtain ⟨own₂, P₂, S₆, hs₂, hJ₂⟩ := h₆
        have nd2 := S₆.nd
        rw [List.map_append] at nd2
        have nd3 := List.nodup_append.mp nd2
        have inW : ∀ b ∈ wr, ∃ o, (b, o) ∈ wrObjs wr h₄ := fun b hb => by
          obtain ⟨o, ho⟩ := hio _ _ hz₄ _ (W.sub _ hb)
          exact ⟨o, mem_wrObjs.mpr ⟨hb, ho⟩⟩
        have offP : ∀ p ∈ P₂, p.1 ∉ wr := fun p hp hb => by
          obtain ⟨o, ho⟩ := inW _ hb
          exact S₆.ap (p.1, o) (List.mem_append_right _ (.tail _ (.tail _ ho))) p hp rfl
        have offO : ∀ b ∈ fp, ∀ q ∈ own₂, q.1 ≠ b := fun b hb q hq e => by
          have hq0 := (S₆.N q (List.mem_append_left _ (List.mem_append_left _ hq))).2.2
          rw [e] at hq0
          by_cases hbw : b ∈ wr
          · obtain ⟨o, ho⟩ := inW _ hbw
            exact nd3.2.2 q.1 (List.mem_map_of_mem hq) b (List.mem_map.mpr ⟨(b, o), .tail _ (.tail _ ho), rfl⟩) e
          · obtain ⟨o, ho⟩ := hio _ _ hz₄ _ hb
            have := hs₂ _ (List.mem_append_left _ (List.mem_filter.mpr ⟨mem_ownOf hb hq0 ho, by simpa using hbw⟩))
            exact S₆.ap q (List.mem_append_left _ hq) _ this e.symm
        have keepZ : ∀ h₇ : Heap, (∀ b o, b ≠ D → s₆.heap.get? b = some o → h₇.get? b = some o) → Z (i + 1) h₇ := fun h₇ hk => W.frame _ _ _ hz₄ fun b hb o e => by
          refine hk b o (fun q => hDf (q ▸ hb)) ?_
          cases hn : c.g.get? b with
          | some o₀ =>
            have := S₄.F.keep b o₀ hn
            rw [show ({ s' with heap := h₄, toks := tk₄ } : Shared).heap.get? b = h₄.get? b from rfl, e] at this
            cases this
            exact S₆.F.keep b o hn
          | none =>
            by_cases hbw : b ∈ wr
            · exact (S₆.N (b, o) (List.mem_append_left _ (List.mem_append_right _ (.tail _ (.tail _ (mem_wrObjs.mpr ⟨hbw, e⟩)))))).1
            · exact (S₆.N (b, o) (List.mem_append_right _ (hs₂ _ (List.mem_append_left _ (List.mem_filter.mpr ⟨mem_ownOf hb hn e, by simpa using hbw⟩))))).1
        have trim : ∀ {s₇ : Shared} {ys' : List Value}, St w c m (own₂ ++ ([(C, oC'), (D, LCg.lst ys')] ++ wrObjs wr h₄)) P₂ s₇ → St w c m (own₂ ++ [(C, oC'), (D, LCg.lst ys')]) P₂ s₇ := fun {s₇ ys'} S₇ =>
          ⟨S₇.F, fun p hp => S₇.N p (by
            rcases List.mem_append.mp hp with hp | hp
            · rcases List.mem_append.mp hp with hp | hp
              · exact List.mem_append_left _ (List.mem_append_left _ hp)
              · exact List.mem_append_left _ (List.mem_append_right _ (List.mem_append_left _ hp))
            · exact List.mem_append_right _ hp), fun q hq p hp => S₇.ap q (by
            rcases List.mem_append.mp hq with hq | hq
            · exact List.mem_append_left _ hq
            · exact List.mem_append_right _ (List.mem_append_left _ hq)) p hp, by
            have h := S₇.nd
            rw [← List.append_assoc, List.map_append] at h
            exact (List.nodup_append.mp h).1, S₇.X, S₇.T, S₇.B, S₇.hh, S₇.fr, S₇.eg, S₇.ed, S₇.eo⟩
        cases o with
        | none =>
          refine ⟨n + 1 - (i + 1), by omega, i + 1, own₂, P₂, oC', m₂, ys, trim S₆, hoC', keepZ _ fun b o _ e => e, offO, offP, by simpa using hJ₂, by omega, hlt, rfl⟩
        | some y =>
          have zD := (S₆.N (D, LCg.lst ys) (List.mem_append_left _ (List.mem_append_right _ (.tail _ (.head _))))).1
          refine append_at (hsz := by show ys.toArray.size ≤ sizeLine; rw [List.size_toArray]; exact fits_le (by omega)) zD fun h₇ hs₇ hD₇ => ?_
          have S₇ : St w c m ((own₂ ++ [(C, oC')]) ++ (D, LCg.lst (ys ++ [y])) :: wrObjs wr h₄) P₂ { s₆ with heap := h₇, toks := s₆.toks } := by
            refine St.put (o := LCg.lst ys) ?_ (fun b ob hb e => hs₇.extBut b ob hb e) (hD₇.trans (congrArg some (LCg.lst_snoc ys y)))
            have := S₆
            simpa [List.append_assoc] using this
          refine ⟨n + 1 - (i + 1), by omega, i + 1, own₂, P₂, oC', m₂, ys ++ [y], trim (by simpa [List.append_assoc] using S₇), hoC', keepZ _ fun b o hb e => hs₇.extBut b o hb e, offO, offP, by simpa using hJ₂, by rw [List.length_append, List.length_singleton]; omega, hlt, rfl⟩
      · rcases List.mem_append.mp hq with hq | hq
        · exact hof b hb q hq
        · rcases List.mem_cons.mp hq with rfl | hq
          · exact fun e => hCf (by have e' : C = b := e; rw [e']; exact hb)
          · rw [List.mem_singleton.mp hq]; exact fun e => hDf (by have e' : D = b := e; rw [e']; exact hb)
    · obtain rfl : i = n := Nat.le_antisymm hi (Nat.not_lt.mp hlt)
      refine W.done _ _ _ hz' fun h₂ tk₂ hk₂ => ?_
      have S₂ := S'.out (tk := tk₂) hk₂ hLw hgw offw
      have S₃ : St w c m ((D, LCg.lst ys) :: (C, oC) :: own₁) P₁ { s' with heap := h₂, toks := tk₂ } := S₂.perm (by
        refine (List.perm_append_comm).trans ?_
        exact List.Perm.swap _ _ _)
      exact hRR D C oC m₁ own₁ P₁ ys _ hoC S₃.settle hJ
  exact codeAny_compStart_list (loop _ rfl) (self 0 _ _ _ hz1 (loop _ rfl))
end

def CompAt (w : World) (c : Cx) (m : Str → Option Value) (target elt : Expr) (ifs : List Expr) (scope : Scope) (cl : List (Str × Addr)) (env : Env) (Fin : Led → Led → List Value → Addr → Prop) (it : Value) (s : Shared) : Prop :=
  ∃ (I : Addr) (own P : Led) (n : Nat) (Pt : Nat → Value → Heap → Prop) (G : Nat → (Str → Option Value) → Prop) (J : Nat → Led → Led → List Value → Prop), it = .ref I ∧ St w c m own P s ∧ Itr w c target own P I s n Pt ∧ n ≤ 1000000 ∧
    (∀ i v C m₁ own₁ P₁ ys (s₁ : Shared) (Q : Unit → Shared → Prop) (E : Value → Shared → Prop), i < n → Pt i v s₁.heap → J i own₁ P₁ ys → (∀ p ∈ P₁, s₁.heap.get? p.1 = some p.2) → s₁.heap.Ns C m₁ → (∀ h' tk m₂, h'.Ns C m₂ → G i m₂ → (∀ b o, b ≠ C → s₁.heap.get? b = some o → h'.get? b = some o) → Q () { s₁ with heap := h', toks := tk }) →
      wpAny (model PySem.Challenge.rw_pq1024_01.row.prog w) c.A (assign target (compEnvC scope cl C env) v) Q E s₁) ∧ J 0 own P [] ∧
    (∀ i own₁ P₁ P₁' tl C oC m₂ ys s₂ E', i < n → J i own₁ P₁ ys → G i m₂ → LCg.NsObj oC m₂ → (C, oC) ∈ tl → St w c m (own₁ ++ tl) P₁' s₂ → (∀ p ∈ P₁, p ∈ P₁') →
      Stage w c.A (compEnvC scope cl C env) ifs elt (fun o s₄ => ∃ own₂ P₂, St w c m (own₂ ++ tl) P₂ s₄ ∧ (∀ p ∈ P₁', p ∈ P₂) ∧ J (i + 1) own₂ P₂ (ys ++ o.toList)) E' s₂) ∧
    ∀ own' P' ys D, J n own' P' ys → Fin own' P' ys D
section
variable {w : World} {c : Cx} {m : Str → Option Value} {own P : Led} {s : Shared} {E : Value → Shared → Prop}
theorem St.dropC {C : Addr} {oC : Obj} (S : St w c m ((C, oC) :: own) P s) : ∀ h', Heap.SameBut C s.heap h' → St w c m own P { s with heap := h' } := fun h' hs => by
  have hz := S.N (C, oC) (.head _)
  have S' : St w c m own P s := S.drop
  refine S'.out (tk := s.toks) (wr := [C]) (fun b ob hb e => hs.extBut b ob (by simpa using hb) e) (by simpa using Ne.symm hz.2.1) (fun b hb => by rw [List.mem_singleton.mp hb]; exact hz.2.2) (fun q hq hb => ?_)
  have hb' : q.1 = C := by simpa using hb
  rcases List.mem_append.mp hq with hq | hq
  · exact (List.nodup_cons.mp S.nd).1 (List.mem_map.mpr ⟨q, hq, hb'⟩)
  · exact S.ap _ (.head _) q hq hb'
theorem comp_eval {target elt iter : Expr} {ifs : List Expr} {scope : Scope} {cl : List (Str × Addr)} {pos : Pos} {env : Env} {Q : Value → Shared → Prop}
    (hifs : ifs.length ≤ 1) (hclos : closureFor scope env = pure cl) (hcell : ∀ y ∈ scope.names, y.2 ≠ .cell) (hkind : scope.kind = .function) (hnames : ∀ y ∈ scope.names, y.2 = .local → scope.names.lookup y.1 = some .local) (hs : ∀ x, foldedSetIterable iter env x = pure x)
    (h : wpAny (model PySem.Challenge.rw_pq1024_01.row.prog w) c.A (eval iter env) (fun xv s₁ => wpAny (model PySem.Challenge.rw_pq1024_01.row.prog w) c.A (pyIter xv) (CompAt w c m target elt ifs scope cl env (fun own' P' ys D => ∀ s', St w c m own' ((D, LCg.lst ys) :: P') s' → Q (.ref D) s')) E s₁) E s) :
    wpAny (model PySem.Challenge.rw_pq1024_01.row.prog w) c.A (eval (.ListComp elt [⟨target, iter, ifs, 0⟩] scope pos) env) Q E s := by
  rw [eval_ListComp]
  refine wpAny_comprehension_free (use := none) rfl hs hclos hkind hnames (wpAny_mono h (fun xv s₁ h₁ => wpAny_mono h₁ (fun it s₂ h₂ => ?_) fun _ _ e => e) fun _ _ e => e)
  obtain ⟨I, own, P, n, Pt, G, J, rfl, S, hI, hz, asg, h0, step, fin⟩ := h₂
  refine comp_core (RR := fun acc C => compPost _ _ _ none Q acc C) hifs hcell hkind S hI hz G J asg h0 step fun D C oC m' own' P' ys s' hoC S' hJ => ?_
  exact ⟨m', hoC.ns (S'.N (C, oC) (.head _)).1, fun h' hs' => fin _ _ _ D hJ _ (S'.dropC h' hs')⟩
theorem comp_assign {target elt iter : Expr} {ifs : List Expr} {scope : Scope} {cl : List (Str × Addr)} {pos spos py : Pos} {Q : Flow → Shared → Prop} {cn : Str} {ns : List (Str × NameKind)} {mo : List (Str × Const)} {a : Addr} {ccd : Value} {ecl : List (Str × Addr)} {vals : List (Option Value)} {y : Str} (g : goodNs ns = true)
    (hsw : swapsWith (.ListComp elt [⟨target, iter, ifs, 0⟩] scope pos) (some (.Name y py)) spos.line (envX cn (fnSc ns mo) c.L a ccd ecl) = pure true)
    (hifs : ifs.length ≤ 1) (hclos : closureFor scope (envX cn (fnSc ns mo) c.L a ccd ecl) = pure cl) (hcell : ∀ y ∈ scope.names, y.2 ≠ .cell) (hkind : scope.kind = .function) (hnames : ∀ y ∈ scope.names, y.2 = .local → scope.names.lookup y.1 = some .local) (hs : ∀ x, foldedSetIterable iter (envX cn (fnSc ns mo) c.L a ccd ecl) x = pure x)
    (h : wpAny (model PySem.Challenge.rw_pq1024_01.row.prog w) c.A (eval iter (envX cn (fnSc ns mo) c.L a ccd ecl)) (fun xv s₁ => wpAny (model PySem.Challenge.rw_pq1024_01.row.prog w) c.A (pyIter xv) (CompAt w c (asg ns vals) target elt ifs scope cl (envX cn (fnSc ns mo) c.L a ccd ecl) (fun own' P' ys D => SetQ ns vals y (.ref D) (fun vals' => ∀ s', St w c (asg ns vals') own' ((D, LCg.lst ys) :: P') s' → Q .next s'))) E s₁) E s) :
    wpAny (model PySem.Challenge.rw_pq1024_01.row.prog w) c.A (exec (.Assign [.Name y py] (.ListComp elt [⟨target, iter, ifs, 0⟩] scope pos) spos) (envX cn (fnSc ns mo) c.L a ccd ecl)) Q E s := by
  rw [exec_Assign_Name_used _ _ _ _ hsw]
  refine wpAny_bind (wpAny_standAt (wpAny_bind ?_))
  show wpAny _ c.A (do let _ ← comprehension (.ListComp elt [⟨target, iter, ifs, 0⟩] scope pos) scope (envX cn (fnSc ns mo) c.L a ccd ecl) _ (newList []) false (eval iter (envX cn (fnSc ns mo) c.L a ccd ecl)) (some (assign (.Name y py) (envX cn (fnSc ns mo) c.L a ccd ecl)))) _ _ s
  refine wpAny_bind (wpAny_mono (wpAny_comprehension_free (use := some (assign (.Name y py) (envX cn (fnSc ns mo) c.L a ccd ecl))) (Q := fun _ s' => Q .next s') rfl hs hclos hkind hnames
    (wpAny_mono h (fun xv s₁ h₁ => wpAny_mono h₁ (fun it s₂ h₂ => ?_) fun _ _ e => e) fun _ _ e => e)) (fun _ s' hq => wpAny_pure (wpAny_pure hq)) fun _ _ e => e)
  obtain ⟨I, own, P, n, Pt, G, J, rfl, S, hI, hz, asgn, h0, step, fin⟩ := h₂
  refine comp_core (RR := fun acc C => compPost _ _ _ (some (assign (.Name y py) (envX cn (fnSc ns mo) c.L a ccd ecl))) (fun _ s' => Q .next s') acc C) hifs hcell hkind S hI hz G J asgn h0 step fun D C oC m' own' P' ys s' hoC S' hJ => ?_
  show wpAny _ c.A (assign (.Name y py) (envX cn (fnSc ns mo) c.L a ccd ecl) (.ref D)) _ _ _
  refine wpAny_assign_Name (st_loc S' g ?_)
  obtain ⟨vals', hl, hf⟩ := fin _ _ _ D hJ
  exact ⟨vals', hl, fun s'' S'' => ⟨m', hoC.ns (S''.N (C, oC) (.head _)).1, fun h' hs' => hf _ (S''.dropC h' hs')⟩⟩
theorem asgC_name {x : Str} {px : Pos} {scope : Scope} {cl : List (Str × Addr)} {env : Env} {C : Addr} {v : Value} {m₁ : Str → Option Value} {Q : Unit → Shared → Prop} (hkind : scope.kind = .function) (hx : scope.names.lookup x = some .local) (hn : s.heap.Ns C m₁)
    (h : ∀ h' tk m₂, h'.Ns C m₂ → m₂ x = some v → (∀ b o, b ≠ C → s.heap.get? b = some o → h'.get? b = some o) → Q () { s with heap := h', toks := tk }) :
    wpAny (model PySem.Challenge.rw_pq1024_01.row.prog w) c.A (assign (.Name x px) (compEnvC scope cl C env) v) Q E s :=
  wpAny_assign_Name (wpAny_storeName_local (lookup_relabel_local hx) hn (fun h' hn' hs' => h h' _ _ hn' (by simp) fun b o hb e => hs'.extBut b o hb e) (by simp [compEnvC, relabel, hkind]))
theorem asgC_pair {x y : Str} {px py tp : Pos} {kk : Nat} {scope : Scope} {cl : List (Str × Addr)} {env : Env} {C T : Addr} {a b : Value} {m₁ : Str → Option Value} {Q : Unit → Shared → Prop} (hh : c.A.handled = none) (hkind : scope.kind = .function) (hx : scope.names.lookup x = some .local) (hy : scope.names.lookup y = some .local) (hxy : x ≠ y) (hn : s.heap.Ns C m₁) (ht : s.heap.IsTuple T #[a, b])
    (h : ∀ h' tk m₂, h'.Ns C m₂ → m₂ x = some a → m₂ y = some b → (∀ b o, b ≠ C → s.heap.get? b = some o → h'.get? b = some o) → Q () { s with heap := h', toks := tk }) :
    wpAny (model PySem.Challenge.rw_pq1024_01.row.prog w) c.A (assign (.Tuple [.Name x px, .Name y py] kk tp) (compEnvC scope cl C env) (.ref T)) Q E s := by
  refine assign_Tuple_tuple hh ht rfl rfl fun h₅ he => ?_
  have he' : ∀ b o, s.heap.get? b = some o → h₅.get? b = some o := fun b o e => he b o (Nat.ne_of_lt (Heap.lt_size e)) e
  refine assignInOrder_cons (wpAny_assign_Name (wpAny_storeName_local (lookup_relabel_local hx) (hn.at' fun o e => he' _ o e) (fun h₆ hn₆ hs₆ => ?_) (by simp [compEnvC, relabel, hkind])))
  refine assignInOrder_cons (wpAny_assign_Name (wpAny_storeName_local (lookup_relabel_local hy) hn₆ (fun h₃ hn₃ hs₃ => ?_) (by simp [compEnvC, relabel, hkind])))
  exact assignInOrder_nil (h h₃ _ _ hn₃ (by simp [hxy]) (by simp) fun b o hb e => hs₃.extBut b o hb (hs₆.extBut b o hb (he' b o e)))
theorem asgF_pair {x y : Str} {px py tp : Pos} {kk : Nat} {cn : Str} {ns : List (Str × NameKind)} {mo : List (Str × Const)} {a₀ : Addr} {ccd : Value} {cl : List (Str × Addr)} {vals : List (Option Value)} {T : Addr} {a b : Value} {Q : Unit → Shared → Prop} (S : St w c (asg ns vals) own P s) (g : goodNs ns = true) (ht : s.heap.IsTuple T #[a, b])
    (h : SetQ ns vals x a (fun vals₁ => SetQ ns vals₁ y b (fun vals₂ => ∀ s', St w c (asg ns vals₂) own P s' → Q () s'))) :
    wpAny (model PySem.Challenge.rw_pq1024_01.row.prog w) c.A (assign (.Tuple [.Name x px, .Name y py] kk tp) (envX cn (fnSc ns mo) c.L a₀ ccd cl) (.ref T)) Q E s := by
  refine assign_Tuple_tuple S.hh ht rfl rfl fun h₅ he => ?_
  have he' : ∀ b o, s.heap.get? b = some o → h₅.get? b = some o := fun b o e => he b o (Nat.ne_of_lt (Heap.lt_size e)) e
  have S₅ : St w c (asg ns vals) own P { s with heap := h₅ } := S.same (tk := s.toks) (S.F.keeps he') (S.N.grown he') S.ap S.nd
  obtain ⟨vals₁, l₁, vals₂, l₂, h⟩ := h
  refine assignInOrder_cons (wpAny_assign_Name (st_loc S₅ g ⟨vals₁, l₁, fun s₁ S₁ => ?_⟩))
  exact assignInOrder_cons (wpAny_assign_Name (st_loc S₁ g ⟨vals₂, l₂, fun s₂ S₂ => assignInOrder_nil (h _ S₂)⟩))
end
end Mine
end
section
namespace Mine
theorem cellsFrom_ge : ∀ (ns : List (Str × NameKind)) (n k : Nat) (acc : List (Str × Addr)), k ≤ n → (∀ p ∈ acc, k ≤ (p.2 : Nat)) → ∀ p ∈ cellsFrom n ns acc, k ≤ (p.2 : Nat)
  | [], _, _, acc, _, h, p, hp => h p hp
  | (name, kind) :: r, n, k, acc, hk, h, p, hp => by
    unfold cellsFrom at hp
    split at hp
    · refine cellsFrom_ge r (n + 1) k _ (Nat.le_succ_of_le hk) (fun q hq => ?_) p hp
      rcases List.mem_cons.mp hq with rfl | hq
      · exact hk
      · exact h q hq
    · exact cellsFrom_ge r n k acc hk h p hp
theorem cellsAre_mem {cm : Str → Option Value} : ∀ {l : List (Str × Addr)} {cells : Led}, CellsAre cm l cells → ∀ p ∈ cells, ∃ q ∈ l, q.2 = p.1 ∧ p.2.data = .cell (cm q.1)
  | _, _, .nil, p, hp => nomatch hp
  | _, _, .cons h r, p, hp => by
    rcases List.mem_cons.mp hp with rfl | hp
    · exact ⟨_, .head _, rfl, h⟩
    · obtain ⟨q, hq, e⟩ := cellsAre_mem r p hp
      exact ⟨q, .tail _ hq, e⟩
theorem cellsGe {L' : Addr} {ns : List (Str × NameKind)} {cm : Str → Option Value} {cells : Led} (h : CellsAre cm (cellsFrom (L' + 1) ns []) cells) : ∀ p ∈ cells, (L' : Nat) + 1 ≤ p.1 := fun p hp => by
  obtain ⟨q, hq, e, _⟩ := cellsAre_mem h p hp
  rw [← e]
  exact cellsFrom_ge ns _ _ [] (Nat.le_refl _) (fun _ h => nomatch h) q hq
theorem enterC {w : World} {c : Cx} {m : Str → Option Value} {own P : Led} {s : Shared} {Q E : Value → Shared → Prop} {K : Frag} {name qual : Str} {params : Arguments} {body : List Stmt} {ns : List (Str × NameKind)} {mo : List (Str × Const)} {dV kV doc pm cdv ct oc : Value} {an od : Option Addr} {osl : Array (Option Value)} {f : Addr} {vs : List Value} {vals : List (Option Value)} {Out : Led → Led → Value → Prop}
    (hK : K = hd.heap_39 w.params) (S : St w c m own P s)
    (ho : K.lookup f = some ⟨oc, od, .func (fnOf name qual params body (fnSc ns mo) dV kV doc pm an cdv ct), osl⟩) (hcd : codeIn K cdv qual = true) (hroom : c.A.depth < recursionLimit)
    (hbind : BindsTo s (fnOf name qual params body (fnSc ns mo) dV kV doc pm an cdv ct) ⟨vs, []⟩ ((params.args.map (·.arg)).zip vs))
    (hkind : (((params.args.map (·.arg)).zip vs).all fun y => ns.lookup y.1 == some .local || ns.lookup y.1 == some .cell) = true) (hnd : ((cellsFrom 0 ns []).map (·.1)).Nodup) (hgood : goodNs ns = true)
    (hbL : ∀ L', bindL (envOfC qual (fnSc ns mo) L' f cdv).kindOf ((params.args.map (·.arg)).zip vs) (fun _ => none) = asg ns vals)
    (h : ∀ c' s' cc, goodNs ns = true → c'.A.depth = c.A.depth + 1 → c'.A.units = c.A.units + 3 → CellsAre (bindC (envOfC qual (fnSc ns mo) c'.L f cdv).kindOf ((params.args.map (·.arg)).zip vs) fun _ => none) (cellsFrom (c'.L + 1) ns []) cc → St w c' (asg ns vals) own (cc ++ P) s' →
      wpAny (model PySem.Challenge.rw_pq1024_01.row.prog w) c'.A (execs body (envX qual (fnSc ns mo) c'.L f cdv (cellsFrom (c'.L + 1) ns []))) (fun fl s'' => Ends w c' P (fun cs P' r => cs.map (·.1) = own.map (·.1) ∧ Out cs P' r) (match fl with | .ret v => v | _ => .none) s'') (fun _ _ => False) s')
    (ret : ∀ r own' P' s', St w c m own' P' s' → own'.map (·.1) = own.map (·.1) → (∀ p ∈ P, p ∈ P') → Out own' P' r → Q r s') :
    codeAny (model PySem.Challenge.rw_pq1024_01.row.prog w) c.A (.call (.ref f) ⟨vs, []⟩) (fun r s' => match r with | .ok (.ret v) => Q v s' | .ok _ => False | .error e => E e s') s := by
  subst hK
  obtain ⟨e, hA, hf, hke⟩ := S.fr
  refine code_defC (news := own ++ P) S.B S.F S.X S.N S.T hA hf hke ho hcd hroom hbind hkind hnd (fun g L' h₁ tk cc FG F' N' Y B' X' T' lt => ?_) rfl rfl rfl
  rw [hbL] at F'
  let c' : Cx := ⟨c.pp, c.loose, c.mean, c.mg, c.mb, c.A, c.base, e :: c.outer, g, L', c.A.deeper (envOfC qual (fnSc ns mo) L' f cdv), s⟩
  have S' : St w c' (asg ns vals) own (cc ++ P) { s with heap := h₁, toks := tk } := by
    refine ⟨F', fun p hp => N' p ?_, fun q hq p hp => ?_, S.nd, X', T', B', S.hh, ⟨_, Around.frames_deeper B'.stack, rfl, rfl⟩, rfl, rfl, rfl⟩
    · rcases List.mem_append.mp hp with hp | hp
      · exact List.mem_append_right _ (List.mem_append_left _ hp)
      · rcases List.mem_append.mp hp with hp | hp
        · exact List.mem_append_left _ hp
        · exact List.mem_append_right _ (List.mem_append_right _ hp)
    · rcases List.mem_append.mp hp with hp | hp
      · have h1 := lt q (List.mem_append_left _ hq)
        have h2 := cellsGe Y p hp
        exact Nat.ne_of_gt (Nat.lt_trans h1 h2)
      · exact S.ap q hq p hp
  refine wpAny_mono (h c' _ cc hgood rfl rfl Y S') (fun fl s' hdn => ?_) fun _ _ e => e.elim
  obtain ⟨m₂, own₂, ex, P', S₂, hs, hcs, hO⟩ := hdn
  refine ⟨L', m₂, (own₂ ++ ex) ++ P', S₂.F, S₂.N, fun F₃ N₃ => ?_⟩
  have eq' : s' = { s with heap := s'.heap, toks := s'.toks } := by
    have h1 := S₂.eg
    have h2 := S₂.ed
    have h3 := S₂.eo
    cases s'
    dsimp only [c'] at h1 h2 h3
    subst h1 h2 h3
    rfl
  refine ret _ own₂ P' s' ⟨F₃, fun p hp => N₃ p ?_, fun q hq => S₂.ap q (List.mem_append_left _ hq), by rw [hcs]; exact S.nd, S.X, S.T, S.B, S.hh, S.fr, (congrArg Shared.gens eq').trans S.eg, (congrArg Shared.drawn eq').trans S.ed, (congrArg Shared.os eq').trans S.eo⟩ hcs hs hO
  rcases List.mem_append.mp hp with hp | hp
  · exact List.mem_append_left _ (List.mem_append_left _ hp)
  · exact List.mem_append_right _ hp

/-! ## the node makers, by trees -/
section
variable {w : World} {P : Led}
theorem mk_cint {i : Fin 8} {tk : Tok} : Pure w 3 P (call (.ref 66) [.int (i.val : Int) tk]) fun P' r => TR w P' r (.cint i) := c_Const.mono (Nat.le_refl _) fun P' r hs ⟨x, d, t0, e, h1, h2⟩ => ⟨x, e, .cint h1 h2⟩
theorem mk_cun : Pure w 3 P (call (.ref 66) [.ref 427]) fun P' r => TR w P' r .cun := c_Const.mono (Nat.le_refl _) fun P' r hs ⟨x, d, t0, e, h1, h2⟩ => ⟨x, e, .cun h1 h2⟩
theorem mk_loc {n : Int} {tk : Tok} : Pure w 3 P (call (.ref 85) [.int n tk]) fun P' r => TR w P' r (.loc n) := c_Local.mono (Nat.le_refl _) fun P' r hs ⟨x, d, t0, e, h1, h2⟩ => ⟨x, e, .loc h1 h2⟩
theorem mk_glob {n : Int} {tk : Tok} : Pure w 3 P (call (.ref 104) [.int n tk]) fun P' r => TR w P' r (.glob n) := c_Global.mono (Nat.le_refl _) fun P' r hs ⟨x, d, t0, e, h1, h2⟩ => ⟨x, e, .glob h1 h2⟩
theorem mk_setl {n : Int} {tk : Tok} {v : Value} {t : T} (h : TR w P v t) : Pure w 3 P (call (.ref 137) [.int n tk, v]) fun P' r => TR w P' r (.setl n t) := by
  obtain ⟨a, rfl, h⟩ := h
  exact c_SetLocal.mono (Nat.le_refl _) fun P' r hs ⟨x, d, t0, t1, e, h1, h2⟩ => ⟨x, e, .setl h1 h2 (h.mono hs)⟩
theorem mk_lam {l : Int} {k1 k3 : Tok} {pl : Addr} {vs : List Value} {e : Nat} {ps : List Int} {v : Value} {t : T} (hl : (pl, listOf vs.toArray e) ∈ P) (hi : IntsAre vs ps) (h : TR w P v t) : Pure w 3 P (call (.ref 184) [.int l k1, .ref pl, .int (-1) k3, v]) fun P' r => TR w P' r (.lam l ps t) := by
  obtain ⟨a, rfl, h⟩ := h
  exact c_Lambda.mono (Nat.le_refl _) fun P' r hs ⟨x, d, t0, t1, t2, t3, e, h1, h2⟩ => ⟨x, e, .lam h1 h2 (hs _ hl) hi (h.mono hs)⟩
theorem mk_call {ol : Addr} {vs : List Value} {e : Nat} {ts : List T} {v : Value} {t : T} (h : TR w P v t) (hl : (ol, listOf vs.toArray e) ∈ P) (hv : Nds w P vs ts) : Pure w 3 P (call (.ref 217) [v, .ref ol]) fun P' r => TR w P' r (.call t ts) := by
  obtain ⟨a, rfl, h⟩ := h
  exact c_Call.mono (Nat.le_refl _) fun P' r hs ⟨x, d, t0, t1, e, h1, h2⟩ => ⟨x, e, .call h1 h2 (hs _ hl) (h.mono hs) (hv.mono hs)⟩
theorem mk_seq {ol : Addr} {vs : List Value} {e : Nat} {ts : List T} (hl : (ol, listOf vs.toArray e) ∈ P) (hv : Nds w P vs ts) : Pure w 3 P (call (.ref 250) [.ref ol]) fun P' r => TR w P' r (.seq ts) :=
  c_Seq.mono (Nat.le_refl _) fun P' r hs ⟨x, d, t0, e, h1, h2⟩ => ⟨x, e, .seq h1 h2 (hs _ hl) (hv.mono hs)⟩
theorem mk_fix {nl ll : Addr} {us vs : List Value} {e1 e2 : Nat} {ns : List Int} {ts : List T} {v : Value} {t : T} (h1 : (nl, listOf us.toArray e1) ∈ P) (hi : IntsAre us ns) (h2 : (ll, listOf vs.toArray e2) ∈ P) (hv : Nds w P vs ts) (h : TR w P v t) : Pure w 3 P (call (.ref 283) [.ref nl, .ref ll, v]) fun P' r => TR w P' r (.fix ns ts t) := by
  obtain ⟨a, rfl, h⟩ := h
  exact c_Fix.mono (Nat.le_refl _) fun P' r hs ⟨x, d, t0, t1, t2, e, k1, k2⟩ => ⟨x, e, .fix k1 k2 (hs _ h1) hi (hs _ h2) (hv.mono hs) (h.mono hs)⟩
end
theorem Nds.of {w : World} {P : Led} : ∀ {vs : List Value} {ts : List T}, All2 (TR w P) vs ts → Nds w P vs ts
  | _, _, .nil => .nil
  | _, _, .cons ⟨_, e, h⟩ r => e ▸ .cons h (Nds.of r)

/-! ## what is built -/
mutual
def Sc (vis : List Int) : T → Prop
  | .cint _ => True | .cun => True | .glob _ => True
  | .loc n => n ∈ vis
  | .setl n v => n ∈ vis ∧ Sc vis v
  | .lam _ ps b => Sc (ps ++ vis) b
  | .call f xs => Sc vis f ∧ Scs vis xs
  | .seq xs => Scs vis xs
  | .fix _ _ _ => False
def Scs (vis : List Int) : List T → Prop
  | [] => True
  | t :: r => Sc vis t ∧ Scs vis r
end
mutual
def labs : T → List Int
  | .cint _ => [] | .cun => [] | .glob _ => [] | .loc _ => []
  | .setl _ v => labs v
  | .lam l _ b => l :: labs b
  | .call f xs => labs f ++ labss xs
  | .seq xs => labss xs
  | .fix _ ls b => labss ls ++ labs b
def labss : List T → List Int
  | [] => []
  | t :: r => labs t ++ labss r
end
mutual
def binds : T → List Int
  | .cint _ => [] | .cun => [] | .glob _ => [] | .loc _ => []
  | .setl _ v => binds v
  | .lam _ ps b => ps ++ binds b
  | .call f xs => binds f ++ bindss xs
  | .seq xs => bindss xs
  | .fix _ ls b => bindss ls ++ binds b
def bindss : List T → List Int
  | [] => []
  | t :: r => binds t ++ bindss r
end
/-- numbers of a stretch -/
def In (a b : Int) (l : List Int) : Prop := l.Nodup ∧ ∀ i ∈ l, a < i ∧ i ≤ b
theorem In.nil {a b : Int} : In a b [] := ⟨List.nodup_nil, fun _ h => nomatch h⟩
theorem In.append {a b c : Int} {l r : List Int} (h : In a b l) (k : In b c r) (hab : a ≤ b) (hbc : b ≤ c) : In a c (l ++ r) :=
  ⟨List.nodup_append.mpr ⟨h.1, k.1, fun x hx y hy e => by have := h.2 x hx; have := k.2 y hy; omega⟩, fun i hi => by
    rcases List.mem_append.mp hi with hi | hi
    · have := h.2 i hi; omega
    · have := k.2 i hi; omega⟩
theorem In.flip {a b c : Int} {l r : List Int} (h : In a b l) (k : In b c r) (hab : a ≤ b) (hbc : b ≤ c) : In a c (r ++ l) := by
  have := h.append k hab hbc
  exact ⟨(List.perm_append_comm.nodup_iff).mp this.1, fun i hi => this.2 i ((List.perm_append_comm.mem_iff).mp hi)⟩
theorem In.wide {a b a' b' : Int} {l : List Int} (h : In a b l) (ha : a' ≤ a) (hb : b ≤ b') : In a' b' l := ⟨h.1, fun i hi => by have := h.2 i hi; omega⟩
theorem In.one {a b i : Int} (h : a < i) (k : i ≤ b) : In a b [i] := ⟨by simp, fun j hj => by rw [List.mem_singleton.mp hj]; exact ⟨h, k⟩⟩
structure Bl (vis : List Int) (a b a' b' : Int) (t : T) : Prop where
  sc : Sc vis t
  bi : In a a' (binds t)
  la : In b b' (labs t)
  ha : a ≤ a'
  hb : b ≤ b'
structure Bls (vis : List Int) (a b a' b' : Int) (ts : List T) : Prop where
  sc : Scs vis ts
  bi : In a a' (bindss ts)
  la : In b b' (labss ts)
  ha : a ≤ a'
  hb : b ≤ b'
theorem Scs_append {vis : List Int} : ∀ {a b : List T}, Scs vis a → Scs vis b → Scs vis (a ++ b)
  | [], _, _, k => k
  | _ :: _, _, h, k => ⟨h.1, Scs_append h.2 k⟩
theorem labss_append : ∀ a b : List T, labss (a ++ b) = labss a ++ labss b
  | [], _ => rfl
  | t :: r, b => by simp only [List.cons_append, labss, labss_append r b, List.append_assoc]
theorem bindss_append : ∀ a b : List T, bindss (a ++ b) = bindss a ++ bindss b
  | [], _ => rfl
  | t :: r, b => by simp only [List.cons_append, bindss, bindss_append r b, List.append_assoc]
theorem Bls.nil {vis : List Int} {a b : Int} : Bls vis a b a b [] := ⟨trivial, In.nil, In.nil, Int.le_refl _, Int.le_refl _⟩
theorem Bl.one {vis : List Int} {a b a' b' : Int} {t : T} (h : Bl vis a b a' b' t) : Bls vis a b a' b' [t] := ⟨⟨h.sc, trivial⟩, by simpa [bindss] using h.bi, by simpa [labss] using h.la, h.ha, h.hb⟩
theorem Bls.append {vis : List Int} {a b a' b' a'' b'' : Int} {ts us : List T} (h : Bls vis a b a' b' ts) (k : Bls vis a' b' a'' b'' us) : Bls vis a b a'' b'' (ts ++ us) :=
  ⟨Scs_append h.sc k.sc, by rw [bindss_append]; exact h.bi.append k.bi h.ha k.ha, by rw [labss_append]; exact h.la.append k.la h.hb k.hb, by have := h.ha; have := k.ha; omega, by have := h.hb; have := k.hb; omega⟩
theorem Bl.wide {vis : List Int} {a b a' b' x y x' y' : Int} {t : T} (h : Bl vis a b a' b' t) (h1 : x ≤ a) (h2 : y ≤ b) (h3 : a' ≤ x') (h4 : b' ≤ y') : Bl vis x y x' y' t :=
  ⟨h.sc, h.bi.wide h1 h3, h.la.wide h2 h4, by have := h.ha; omega, by have := h.hb; omega⟩
theorem Bl.loc {vis : List Int} {a b n : Int} (h : n ∈ vis) : Bl vis a b a b (.loc n) := ⟨h, In.nil, In.nil, Int.le_refl _, Int.le_refl _⟩
theorem Bl.glob {vis : List Int} {a b n : Int} : Bl vis a b a b (.glob n) := ⟨trivial, In.nil, In.nil, Int.le_refl _, Int.le_refl _⟩
theorem Bl.cint {vis : List Int} {a b : Int} {i : Fin 8} : Bl vis a b a b (.cint i) := ⟨trivial, In.nil, In.nil, Int.le_refl _, Int.le_refl _⟩
theorem Bl.cun {vis : List Int} {a b : Int} : Bl vis a b a b .cun := ⟨trivial, In.nil, In.nil, Int.le_refl _, Int.le_refl _⟩
theorem Bl.setl {vis : List Int} {a b a' b' n : Int} {t : T} (h : Bl vis a b a' b' t) (hn : n ∈ vis) : Bl vis a b a' b' (.setl n t) := ⟨⟨hn, h.sc⟩, h.bi, h.la, h.ha, h.hb⟩
theorem Bl.call {vis : List Int} {a b a' b' a'' b'' : Int} {t : T} {ts : List T} (h : Bl vis a b a' b' t) (k : Bls vis a' b' a'' b'' ts) : Bl vis a b a'' b'' (.call t ts) :=
  ⟨⟨h.sc, k.sc⟩, h.bi.append k.bi h.ha k.ha, h.la.append k.la h.hb k.hb, by have := h.ha; have := k.ha; omega, by have := h.hb; have := k.hb; omega⟩
theorem Bls.seq {vis : List Int} {a b a' b' : Int} {ts : List T} (h : Bls vis a b a' b' ts) : Bl vis a b a' b' (.seq ts) := ⟨h.sc, h.bi, h.la, h.ha, h.hb⟩
end Mine
end
section
namespace Mine
section
variable {w : World} {c : Cx} {m : Str → Option Value} {own P : Led} {s : Shared} {E : Value → Shared → Prop} {Q : Value → Shared → Prop} {cn : Str} {a : Addr} {ccd : Value} {cl : List (Str × Addr)}
theorem call4 {ns : List (Str × NameKind)} {mo : List (Str × Const)} {x : Str} {px pos : Pos} {fv : Value} {e1 e2 e3 e4 : Expr} (S : St w c m own P s) (g : goodNs ns = true) (e : nsIn (hd.heap_39 w.params) mainGlobals x = some (some fv)) (hkp : keepIn (hd.heap_39 w.params) fv = true) (hx : (x, NameKind.globalImplicit) ∈ ns)
    (h : wpAny (model PySem.Challenge.rw_pq1024_01.row.prog w) c.A (eval e1 (envX cn (fnSc ns mo) c.L a ccd cl)) (fun v1 s1 => wpAny (model PySem.Challenge.rw_pq1024_01.row.prog w) c.A (eval e2 (envX cn (fnSc ns mo) c.L a ccd cl)) (fun v2 s2 => wpAny (model PySem.Challenge.rw_pq1024_01.row.prog w) c.A (eval e3 (envX cn (fnSc ns mo) c.L a ccd cl)) (fun v3 s3 => wpAny (model PySem.Challenge.rw_pq1024_01.row.prog w) c.A (eval e4 (envX cn (fnSc ns mo) c.L a ccd cl)) (fun v4 s4 => (hd.heap_39 w.params).In s4.heap ∧ wpAny (model PySem.Challenge.rw_pq1024_01.row.prog w) c.A (call fv [v1, v2, v3, v4]) Q E s4) E s3) E s2) E s1) E s)
    (he1 : starEach [e1, e2, e3, e4] (envX cn (fnSc ns mo) c.L a ccd cl) = (false, eval e1 (envX cn (fnSc ns mo) c.L a ccd cl)) :: starEach [e2, e3, e4] (envX cn (fnSc ns mo) c.L a ccd cl)) (he2 : starEach [e2, e3, e4] (envX cn (fnSc ns mo) c.L a ccd cl) = (false, eval e2 (envX cn (fnSc ns mo) c.L a ccd cl)) :: starEach [e3, e4] (envX cn (fnSc ns mo) c.L a ccd cl))
    (he3 : starEach [e3, e4] (envX cn (fnSc ns mo) c.L a ccd cl) = (false, eval e3 (envX cn (fnSc ns mo) c.L a ccd cl)) :: starEach [e4] (envX cn (fnSc ns mo) c.L a ccd cl)) (he4 : starEach [e4] (envX cn (fnSc ns mo) c.L a ccd cl) = [(false, eval e4 (envX cn (fnSc ns mo) c.L a ccd cl))]) :
    wpAny (model PySem.Challenge.rw_pq1024_01.row.prog w) c.A (eval (.Call (.Name x px) [e1, e2, e3, e4] [] pos) (envX cn (fnSc ns mo) c.L a ccd cl)) Q E s := by
  refine Call_ (ev_glob S g e hx ?_)
  refine callWith_K S.X hkp ?_ he1 (by rw [he2, he3, he4]; rfl)
  exact args_cons (wpAny_mono h (fun v s1 h1 => args_cons (wpAny_mono h1 (fun v2 s2 h2 => args_cons (wpAny_mono h2 (fun v3 s3 h3 => args_cons (wpAny_mono h3 (fun v4 s4 h4 => args_nil h4) fun _ _ e => e) he4) fun _ _ e => e) he3) fun _ _ e => e) he2) fun _ _ e => e) he1
theorem useP {k : Nat} {t : Sem Value} {Out : Led → Value → Prop} (h : Pure w k P t Out) (S : St w c m own P s) (hd : c.A.depth + k < recursionLimit) (hu : c.A.units + 8 * k < cLine) (ret : ∀ r P' s', St w c m own P' s' → (∀ p ∈ P, p ∈ P') → Out P' r → Q r s') :
    wpAny (model PySem.Challenge.rw_pq1024_01.row.prog w) c.A t Q E s := h c m own s Q E S hd hu ret
theorem negS {n : Int} {t : Tok} (S : St w c m own P s) (h : ∀ s' tk, St w c m own P s' → Q (.int (-n) tk) s') : wpAny (model PySem.Challenge.rw_pq1024_01.row.prog w) c.A (unaryOp .USub (.int n t)) Q E s := PySem.P.neg_int (h _ _ (S.tok _))
theorem unp2 {T : Addr} {x y : Value} {e : Nat} {Q : List Value → Shared → Prop} (S : St w c m own P s) (ht : (T, tupOf [x, y] e) ∈ P) (h : ∀ s', St w c m own P s' → Q [x, y] s') :
    wpAny (model PySem.Challenge.rw_pq1024_01.row.prog w) c.A (unpackItems (.ref T) 2 none) Q E s :=
  unpackItems_tuple (items := #[x, y]) S.hh ⟨_, S.inP ht, rfl, _, rfl⟩ fun h' he => h _ (by
    have he' : ∀ b o, s.heap.get? b = some o → h'.get? b = some o := fun b o e => he b o (Nat.ne_of_lt (Heap.lt_size e)) e
    exact S.same (tk := s.toks) (S.F.keeps he') (S.N.grown he') S.ap S.nd)
theorem cutE {t : Sem Value} (S : St w c m own P s) (Mid : (Str → Option Value) → Value → Shared → Prop) (h1 : wpAny (model PySem.Challenge.rw_pq1024_01.row.prog w) c.A t (Mid m) E s) (h2 : ∀ v s', Mid m v s' → Q v s') : wpAny (model PySem.Challenge.rw_pq1024_01.row.prog w) c.A t Q E s :=
  wpAny_mono h1 h2 fun _ _ e => e
theorem ifB {b : Bool} {X Y : Prop} (ht : b = true → X) (hf : b = false → Y) : if b = true then X else Y := by
  cases b with
  | true => rw [if_pos rfl]; exact ht rfl
  | false => rw [if_neg (by decide)]; exact hf rfl
end
mutual
theorem Sc_mono {vis vis' : List Int} (hs : ∀ n ∈ vis, n ∈ vis') : ∀ {t : T}, Sc vis t → Sc vis' t
  | .cint _, _ => trivial
  | .cun, _ => trivial
  | .glob _, _ => trivial
  | .loc _, h => hs _ h
  | .setl _ _, h => ⟨hs _ h.1, Sc_mono hs h.2⟩
  | .lam _ ps b, h => Sc_mono (vis := ps ++ vis) (vis' := ps ++ vis') (t := b) (fun n hn => by
      rcases List.mem_append.mp hn with hn | hn
      · exact List.mem_append_left _ hn
      · exact List.mem_append_right _ (hs n hn)) h
  | .call _ _, h => ⟨Sc_mono hs h.1, Scs_mono hs h.2⟩
  | .seq _, h => Scs_mono hs (ts := _) h
  | .fix _ _ _, h => h
theorem Scs_mono {vis vis' : List Int} (hs : ∀ n ∈ vis, n ∈ vis') : ∀ {ts : List T}, Scs vis ts → Scs vis' ts
  | [], _ => trivial
  | _ :: _, h => ⟨Sc_mono hs h.1, Scs_mono hs h.2⟩
end
theorem Bl.lamV {vis : List Int} {a b a' b' k : Int} {t : T} (h : Bl vis a b a' b' t) (hk : k ∈ vis) : Bl vis a b (a' + 1) (b' + 1) (.lam (b' + 1) [a' + 1] (.seq [.call (.loc k) [.loc (a' + 1)], t])) := by
  refine ⟨?_, ?_, ?_, by have := h.ha; omega, by have := h.hb; omega⟩
  · show Sc ([a' + 1] ++ vis) (.seq _)
    exact ⟨⟨List.mem_append_right _ hk, List.mem_append_left _ (.head _), trivial⟩, Sc_mono (fun n hn => List.mem_append_right _ hn) h.sc, trivial⟩
  · have := h.bi.flip (In.one (a := a') (b := a' + 1) (i := a' + 1) (by omega) (by omega)) h.ha (by omega)
    simpa [binds, bindss] using this
  · have := h.la.flip (In.one (a := b') (b := b' + 1) (i := b' + 1) (by omega) (by omega)) h.hb (by omega)
    simpa [labs, labss] using this
def szV : Nat → Nat
  | 0 => 7
  | d + 1 => 28 + 5 * szV d
def BS (w : World) (c : Cx) (m : Str → Option Value) (D X : Addr) (own P : Led) (a b : Int) (s : Shared) : Prop :=
  ∃ xs n e t1 t2, St w c m ((D, listOf (xs : List Value).toArray n) :: (X, listOf [.int a t1, .int b t2].toArray e) :: own) P s ∧ Dk xs
section
variable {w : World} {c : Cx} {m : Str → Option Value} {own P : Led} {s : Shared} {E : Value → Shared → Prop} {Q : Value → Shared → Prop} {D X : Addr} {a b : Int} {xs : List Value} {n e : Nat} {t1 t2 : Tok}
theorem drawB {many : Int} {u : Tok} (S : St w c m ((D, listOf xs.toArray n) :: (X, listOf [.int a t1, .int b t2].toArray e) :: own) P s) (hk : Dk xs) (h1 : 0 < many) (h2 : many < 1000) (hdp : c.A.depth + 2 < recursionLimit) (hu : c.A.units + 80 < cLine)
    (ret : ∀ r tk s', BS w c m D X own P a b s' → 0 ≤ r → r < many → Q (.int r tk) s') : wpAny (model PySem.Challenge.rw_pq1024_01.row.prog w) c.A (call (.ref 519) [.ref D, .int many u]) Q E s :=
  draw S hk h1 h2 hdp hu fun r tk xs' n' s' S' hk' h0 h3 => ret r tk s' ⟨_, _, _, _, _, S', hk'⟩ h0 h3
theorem oneB {it : Addr} {vs : List Value} {e' : Nat} {ns : List Int} (S : St w c m ((D, listOf xs.toArray n) :: (X, listOf [.int a t1, .int b t2].toArray e) :: own) P s) (hk : Dk xs) (hit : (it, listOf vs.toArray e') ∈ P) (hi : IntsAre vs ns) (h1 : 0 < vs.length) (h2 : vs.length < 1000) (hdp : c.A.depth + 3 < recursionLimit) (hu : c.A.units + 90 < cLine)
    (ret : ∀ r tk s', BS w c m D X own P a b s' → r ∈ ns → Q (.int r tk) s') : wpAny (model PySem.Challenge.rw_pq1024_01.row.prog w) c.A (call (.ref 531) [.ref D, .ref it]) Q E s :=
  one S hk hit hi h1 h2 hdp hu fun r tk xs' n' s' S' hk' h0 => ret r tk s' ⟨_, _, _, _, _, S', hk'⟩ h0
theorem new0B {u : Tok} (S : St w c m ((D, listOf xs.toArray n) :: (X, listOf [.int a t1, .int b t2].toArray e) :: own) P s) (hk : Dk xs) (hdp : c.A.depth + 1 < recursionLimit) (hu : c.A.units + 80 < cLine)
    (ret : ∀ tk s', BS w c m D X own P (a + 1) b s' → Q (.int (a + 1) tk) s') : wpAny (model PySem.Challenge.rw_pq1024_01.row.prog w) c.A (call (.ref 538) [.ref X, .int 0 u]) Q E s :=
  new0 S.swap hdp hu fun tk tk' n' s' S' => ret tk s' ⟨_, _, _, _, _, S'.swap, hk⟩
theorem new1B {u : Tok} (S : St w c m ((D, listOf xs.toArray n) :: (X, listOf [.int a t1, .int b t2].toArray e) :: own) P s) (hk : Dk xs) (hdp : c.A.depth + 1 < recursionLimit) (hu : c.A.units + 80 < cLine)
    (ret : ∀ tk s', BS w c m D X own P a (b + 1) s' → Q (.int (b + 1) tk) s') : wpAny (model PySem.Challenge.rw_pq1024_01.row.prog w) c.A (call (.ref 538) [.ref X, .int 1 u]) Q E s :=
  new1 S.swap hdp hu fun tk tk' n' s' S' => ret tk s' ⟨_, _, _, _, _, S'.swap, hk⟩
end
def Maker (w : World) (f : Addr) (d k sz dp q : Nat) : Prop := ∀ (c : Cx) (m : Str → Option Value) (own P : Led) (s : Shared) (Q E : Value → Shared → Prop) (D X : Addr) (a b : Int) (kn : Addr) (vs : List Value) (ek : Nat) (known : List Int) (u : Tok), BS w c m D X own P a b s → (kn, listOf vs.toArray ek) ∈ P → IntsAre vs known → 0 < vs.length → vs.length + 4 * d ≤ q →
  c.A.depth + k < recursionLimit → c.A.units + 8 * k + 200 < cLine → (∀ r P' s' a' b' t, BS w c m D X own P' a' b' s' → (∀ p ∈ P, p ∈ P') → TR w P' r t → Bl known a b a' b' t → t.size ≤ sz → t.dep ≤ dp → Q r s') →
  wpAny (model PySem.Challenge.rw_pq1024_01.row.prog w) c.A (call (.ref f) [.ref D, .ref X, .ref kn, .int (d : Int) u]) Q E s
local macro_rules | `(tactic| k_mem) => `(tactic| with_reducible first | exact List.mem_cons_self | assumption | (refine List.mem_cons_of_mem _ ?_; k_mem))
local macro_rules | `(tactic| k_places) => `(tactic| with_reducible first | exact fun _ h => h | assumption | (intro p hp; k_mem))
local macro_rules | `(tactic| kat_tups) => `(tactic| with_reducible first | exact List.mem_cons_self | (refine List.mem_cons_of_mem _ ?_; kat_tups))
local macro_rules | `(tactic| keq_rows) => `(tactic| with_reducible first | refine LocQ.here ?_ | (refine LocQ.there ?_; keq_rows))
local macro_rules | `(tactic| keq_hits) => `(tactic| with_reducible first | refine SetQ.here ?_ | refine SetQ.hereN ?_ | (refine SetQ.there ?_; keq_hits) | (refine SetQ.thereN ?_; keq_hits))
local macro_rules | `(tactic| fold_lay) => `(tactic| (refine enter (K := hd.heap_39 _) rfl (by assumption) (by k_is) (by k_is) (by omega) (by exact BindsTo.of_eq rfl) (by exact rfl) (by kernel_rfl) ?_ (by assumption)))
local macro_rules | `(tactic| k_allIn) => `(tactic| with_reducible first | exact sl0 | exact sl1 | exact sl2 | exact sl3 | exact sl4)
local macro_rules | `(tactic| k_ownIn) => `(tactic| with_reducible first | exact tl0 | exact tl1 | exact tl2 | exact tl3 | exact Nat.le_trans (Nat.le_of_eq (IntsAre.length (by assumption))) (by assumption))
local macro_rules | `(tactic| k_subL) => `(tactic| with_reducible first | exact g_CONST _ | exact g_LOCAL _ | exact g_GLOBAL _ | exact g_SET_LOCAL _ | exact g_SET_GLOBAL _ | exact g_LAMBDA _ | exact g_FIX _ | exact g_PRIM _ | exact g_UNASSIGNED _ | exact g_Pair _ | exact g_CALL _ | exact g_SEQ _ | exact g_DEFINE _ | exact g_TOP _)
local macro_rules | `(tactic| k_clsL) => `(tactic| with_reducible first
  | ((show wpAny _ _ (eval _ _) _ _ _); first
    | refine Attribute_any_ ?_ (by k_dflt rfl)
    | (refine ev_loc (by assumption) (by assumption) ?_; keq_rows)
    | refine ev_glob (by assumption) (by assumption) (by k_subL) (by kat_tups) ?_
    | (refine ev_int (by assumption) ?_; intro s' tk' S')
    | (refine ev_str (by assumption) ?_; intro s' tk' S')
    | refine List_ ?_
    | refine call2 (by assumption) (by assumption) (g_law_draw _) (kp_law_draw _) (by kat_tups) ?_ (by k_dflt rfl) (by k_dflt rfl)
    | refine call2 (by assumption) (by assumption) (g_law_one _) (kp_law_one _) (by kat_tups) ?_ (by k_dflt rfl) (by k_dflt rfl)
    | refine call2 (by assumption) (by assumption) (g_law_new _) (kp_law_new _) (by kat_tups) ?_ (by k_dflt rfl) (by k_dflt rfl)
    | refine callB1 (by assumption) (by assumption) (gn_len _) bt_len bt_ne_len (by kat_tups) ?_ (by k_dflt rfl)
    | refine call1 (by assumption) (by assumption) (g_Local _) (kp_Local _) (by kat_tups) ?_ (by k_dflt rfl)
    | refine call1 (by assumption) (by assumption) (g_Const _) (kp_Const _) (by kat_tups) ?_ (by k_dflt rfl)
    | refine call1 (by assumption) (by assumption) (g_Global _) (kp_Global _) (by kat_tups) ?_ (by k_dflt rfl)
    | refine call1 (by assumption) (by assumption) (g_Seq _) (kp_Seq _) (by kat_tups) ?_ (by k_dflt rfl)
    | refine call2 (by assumption) (by assumption) (g_Call _) (kp_Call _) (by kat_tups) ?_ (by k_dflt rfl) (by k_dflt rfl)
    | refine call2 (by assumption) (by assumption) (g_SetLocal _) (kp_SetLocal _) (by kat_tups) ?_ (by k_dflt rfl) (by k_dflt rfl)
    | refine call4 (by assumption) (by assumption) (g_Lambda _) (kp_Lambda _) (by kat_tups) ?_ (by k_dflt rfl) (by k_dflt rfl) (by k_dflt rfl) (by k_dflt rfl)
    | refine call4 (by assumption) (by assumption) (g_law_value_of _) (kp_law_value_of _) (by kat_tups) ?_ (by k_dflt rfl) (by k_dflt rfl) (by k_dflt rfl) (by k_dflt rfl)
    | refine call4 (by assumption) (by assumption) (g_law_late _) (kp_law_late _) (by kat_tups) ?_ (by k_dflt rfl) (by k_dflt rfl) (by k_dflt rfl) (by k_dflt rfl)
    | refine UnaryOp_ ?_
    | refine Subscript_ ?_
    | refine MethodCall_ ?_ (by k_dflt rfl)
    | refine Tuple_ ?_
    | refine callT (by assumption) (by assumption) (gn_tuple _) bt_tuple bt_ne_tuple (by kat_tups) ?_ (by k_dflt rfl)
    | refine wpAny_BinOp ?_
    | refine IfExp_ ?_
    | refine callB2 (by assumption) (by assumption) (gn_isinstance _) bt_isinstance ne_isinstance (by kat_tups) ?_ (by k_dflt rfl) (by k_dflt rfl)
    | refine callB1 (by assumption) (by assumption) (gn_repr _) bt_repr ne_repr (by kat_tups) ?_ (by k_dflt rfl)
    | refine ev_bi (by assumption) (by assumption) (gn_int _) bt_int ne_int (by kat_tups) ?_
    | refine ev_bi (by assumption) (by assumption) (gn_bool _) bt_bool ne_bool (by kat_tups) ?_)
  | ((show wpAny _ _ (exec _ _) _ _ _); first
    | refine wpAny_If ?_
    | refine wpAny_Assign_Name ?_ (by k_dflt rfl)
    | refine wpAny_Return_some ?_
    | refine wpAny_Assign_Subscript ?_ (by k_dflt rfl)
    | refine wpAny_Expr_any ?_ (by k_dflt rfl) (by k_dflt rfl)
    | refine plainObj_wpAny_Assign_Attribute ?_ (by k_dflt rfl))
  | ((show wpAny _ _ (compareOp _ _ _) _ _ _); first
    | refine eq_int_ff (by k_dflt rfl) ?_
    | refine eq_int_tt (by k_dflt rfl) ?_
    | refine in_tup_ff (by assumption) (by k_mem) (.cons _ _ (.cons _ _ .nil)) (by k_dflt rfl) ?_
    | refine in_tup_tt (by assumption) (by k_mem) (.cons _ _ (.cons _ _ .nil)) (by k_dflt rfl) ?_
    | refine wpAny_is_ref_self ?_
    | refine PySem.P.lt_int ?_
    | refine PySem.P.gt_int ?_)
  | ((show wpAny _ _ (getAttr _ _ _) _ _ _); first
    | (refine at_kind (by assumption) (by assumption) (by k_places) (by assumption) ?_; intro s' tk' S')
    | (refine at_setl_number (by assumption) (by assumption) (by k_places) ?_; intro s' tk' S')
    | (refine at_cint (by assumption) (by assumption) (by k_places) ?_; intro s' tk' S')
    | (refine at_cun (by assumption) (by assumption) (by k_places) ?_; intro s' S')
    | (refine at_loc (by assumption) (by assumption) (by k_places) ?_; intro s' tk' S')
    | (refine at_glob (by assumption) (by assumption) (by k_places) ?_; intro s' tk' S')
    | (refine at_lam_label (by assumption) (by assumption) (by k_places) ?_; intro s' tk' S')
    | (refine at_lam_rest (by assumption) (by assumption) (by k_places) ?_; intro s' tk' S')
    | (refine at_lam_params (by assumption) (by assumption) (by k_places) ?_; intro s' pl' vs' e' S' hp' hi')
    | (refine at_fix_numbers (by assumption) (by assumption) (by k_places) ?_; intro s' pl' vs' e' S' hp' hi'))
  | ((show wpAny _ _ (getMethod _ _ _) _ _ _); first
    | refine lmeth (by assumption) (by k_mem) PySem.F.slot_list_pop PySem.F.type_list_pop ?_
    | refine lmeth (by assumption) (by k_mem) PySem.F.slot_list_append PySem.F.type_list_append ?_
    | refine lmeth (by assumption) (by k_mem) PySem.F.slot_list_insert PySem.F.type_list_insert ?_)
  | ((show wpAny _ _ (callWith _ _ _ _ _) _ _ _); first
    | refine callWith_method1 ?_ (by k_dflt rfl) (by k_dflt rfl)
    | refine callWith_method0 ?_)
  | ((show wpAny _ _ (call _ _) _ _ _); first
    | (refine tuple_of (by assumption) (by k_mem) (by k_ownIn) ?_; intro D' s' S')
    | (refine isi_int (by assumption) (by k_mem) ?_; intro s' S')
    | (refine isi_un (by assumption) (by k_mem) ?_; intro s' S')
    | (refine isi_pair (by assumption) ?_; intro s' S')
    | (refine rp_int (by assumption) ?_; intro s' tk' S'))
  | ((show wpAny _ _ (PySem.isTrue _ _ _) _ _ _); first
    | refine wpAny_isTrue_Compare1 ?_ (by k_dflt rfl)
    | refine isTrue_and ?_
    | refine isTrue_and_nil ?_
    | refine isTrue_or ?_
    | refine isTrue_or_nil ?_
    | refine isTrue_plain ?_ (by k_dflt rfl))
  | ((show wpAny _ _ (binaryOp _ _ _) _ _ _); first
    | (refine addS (by assumption) ?_; intro s' tk' S')
    | (refine subS (by assumption) ?_; intro s' tk' S'))
  | ((show wpAny _ _ (unaryOp _ _) _ _ _); refine negS (by assumption) ?_; intro s' tk' S')
  | ((show wpAny _ _ (subscriptTail _ _ _ _) _ _ _); first
    | refine own0 (by assumption) (by decide) (by decide) (by k_dflt rfl) ?_ (by k_dflt rfl))
  | ((show wpAny _ _ (PySem.setItem _ _ _) _ _ _); first
    | (refine set0 (by assumption) ?_; intro s' S')
    | (refine set1 (by assumption) ?_; intro s' S'))
  | ((show _ ∧ wpAny _ _ _ _ _ _); refine And.intro (St.kin (by assumption)) ?_)
  | refine wpAny_execs_cons ?_
  | refine sp1 ?_ (by k_dflt rfl)
  | refine sp0 ?_
  | refine wpAny_truthy_bool ?_
  | refine ite_ff ?_
  | refine ite_tt ?_
  | (refine st_loc (by assumption) (by assumption) ?_; keq_hits; intro s' S')
  | (refine nl (by assumption) ?_ (by k_allIn); intro l' s' S')
  | (refine nt (by assumption) ?_ (by k_allIn); intro l' s' S')
  | refine wpAny_execs_nil ?_
  )
local macro_rules | `(tactic| k_offL) => `(tactic| repeat k_clsL)
end Mine
end
section
namespace Mine
local macro_rules | `(tactic| k_mem) => `(tactic| with_reducible first | exact List.mem_cons_self | assumption | (refine List.mem_cons_of_mem _ ?_; k_mem))
local macro_rules | `(tactic| k_places) => `(tactic| with_reducible first | exact fun _ h => h | assumption | (intro p hp; k_mem))
local macro_rules | `(tactic| kat_tups) => `(tactic| with_reducible first | exact List.mem_cons_self | (refine List.mem_cons_of_mem _ ?_; kat_tups))
local macro_rules | `(tactic| keq_rows) => `(tactic| with_reducible first | refine LocQ.here ?_ | (refine LocQ.there ?_; keq_rows))
local macro_rules | `(tactic| keq_hits) => `(tactic| with_reducible first | refine SetQ.here ?_ | refine SetQ.hereN ?_ | (refine SetQ.there ?_; keq_hits) | (refine SetQ.thereN ?_; keq_hits))
local macro_rules | `(tactic| fold_lay) => `(tactic| (refine enter (K := hd.heap_39 _) rfl (by assumption) (by k_is) (by k_is) (by omega) (by exact BindsTo.of_eq rfl) (by exact rfl) (by kernel_rfl) ?_ (by assumption)))
local macro_rules | `(tactic| k_allIn) => `(tactic| with_reducible first | exact sl0 | exact sl1 | exact sl2 | exact sl3 | exact sl4)
local macro_rules | `(tactic| k_ownIn) => `(tactic| with_reducible first | exact tl0 | exact tl1 | exact tl2 | exact tl3 | exact Nat.le_trans (Nat.le_of_eq (IntsAre.length (by assumption))) (by assumption))
local macro_rules | `(tactic| k_subL) => `(tactic| with_reducible first | exact g_CONST _ | exact g_LOCAL _ | exact g_GLOBAL _ | exact g_SET_LOCAL _ | exact g_SET_GLOBAL _ | exact g_LAMBDA _ | exact g_FIX _ | exact g_PRIM _ | exact g_UNASSIGNED _ | exact g_Pair _ | exact g_CALL _ | exact g_SEQ _ | exact g_DEFINE _ | exact g_TOP _)
local macro_rules | `(tactic| k_clsL) => `(tactic| with_reducible first
  | ((show wpAny _ _ (eval _ _) _ _ _); first
    | refine Attribute_any_ ?_ (by k_dflt rfl)
    | (refine ev_loc (by assumption) (by assumption) ?_; keq_rows)
    | refine ev_glob (by assumption) (by assumption) (by k_subL) (by kat_tups) ?_
    | (refine ev_int (by assumption) ?_; intro s' tk' S')
    | (refine ev_str (by assumption) ?_; intro s' tk' S')
    | refine List_ ?_
    | refine call2 (x := Str.ofString "_law_draw") (by assumption) (by assumption) (g_law_draw _) (kp_law_draw _) (by kat_tups) ?_ (by k_dflt rfl) (by k_dflt rfl)
    | refine call2 (x := Str.ofString "_law_one") (by assumption) (by assumption) (g_law_one _) (kp_law_one _) (by kat_tups) ?_ (by k_dflt rfl) (by k_dflt rfl)
    | refine call2 (x := Str.ofString "_law_new") (by assumption) (by assumption) (g_law_new _) (kp_law_new _) (by kat_tups) ?_ (by k_dflt rfl) (by k_dflt rfl)
    | refine callB1 (x := Str.ofString "len") (by assumption) (by assumption) (gn_len _) bt_len bt_ne_len (by kat_tups) ?_ (by k_dflt rfl)
    | refine call1 (x := Str.ofString "Local") (by assumption) (by assumption) (g_Local _) (kp_Local _) (by kat_tups) ?_ (by k_dflt rfl)
    | refine call1 (x := Str.ofString "Const") (by assumption) (by assumption) (g_Const _) (kp_Const _) (by kat_tups) ?_ (by k_dflt rfl)
    | refine call1 (x := Str.ofString "Global") (by assumption) (by assumption) (g_Global _) (kp_Global _) (by kat_tups) ?_ (by k_dflt rfl)
    | refine call1 (x := Str.ofString "Seq") (by assumption) (by assumption) (g_Seq _) (kp_Seq _) (by kat_tups) ?_ (by k_dflt rfl)
    | refine call2 (x := Str.ofString "Call") (by assumption) (by assumption) (g_Call _) (kp_Call _) (by kat_tups) ?_ (by k_dflt rfl) (by k_dflt rfl)
    | refine call2 (x := Str.ofString "SetLocal") (by assumption) (by assumption) (g_SetLocal _) (kp_SetLocal _) (by kat_tups) ?_ (by k_dflt rfl) (by k_dflt rfl)
    | refine call4 (x := Str.ofString "Lambda") (by assumption) (by assumption) (g_Lambda _) (kp_Lambda _) (by kat_tups) ?_ (by k_dflt rfl) (by k_dflt rfl) (by k_dflt rfl) (by k_dflt rfl)
    | refine call4 (x := Str.ofString "_law_value_of") (by assumption) (by assumption) (g_law_value_of _) (kp_law_value_of _) (by kat_tups) ?_ (by k_dflt rfl) (by k_dflt rfl) (by k_dflt rfl) (by k_dflt rfl)
    | refine call4 (x := Str.ofString "_law_late") (by assumption) (by assumption) (g_law_late _) (kp_law_late _) (by kat_tups) ?_ (by k_dflt rfl) (by k_dflt rfl) (by k_dflt rfl) (by k_dflt rfl)
    | refine UnaryOp_ ?_
    | refine Subscript_ ?_
    | refine MethodCall_ ?_ (by k_dflt rfl)
    | refine Tuple_ ?_
    | refine callT (x := Str.ofString "tuple") (by assumption) (by assumption) (gn_tuple _) bt_tuple bt_ne_tuple (by kat_tups) ?_ (by k_dflt rfl)
    | refine wpAny_BinOp ?_
    | refine IfExp_ ?_
    | refine callB2 (x := Str.ofString "isinstance") (by assumption) (by assumption) (gn_isinstance _) bt_isinstance ne_isinstance (by kat_tups) ?_ (by k_dflt rfl) (by k_dflt rfl)
    | refine callB1 (x := Str.ofString "repr") (by assumption) (by assumption) (gn_repr _) bt_repr ne_repr (by kat_tups) ?_ (by k_dflt rfl)
    | refine ev_bi (x := Str.ofString "int") (by assumption) (by assumption) (gn_int _) bt_int ne_int (by kat_tups) ?_
    | refine ev_bi (x := Str.ofString "bool") (by assumption) (by assumption) (gn_bool _) bt_bool ne_bool (by kat_tups) ?_)
  | ((show wpAny _ _ (exec _ _) _ _ _); first
    | refine wpAny_If ?_
    | refine wpAny_Assign_Name ?_ (by k_dflt rfl)
    | refine wpAny_Return_some ?_
    | refine wpAny_Assign_Subscript ?_ (by k_dflt rfl)
    | refine wpAny_Expr_any ?_ (by k_dflt rfl) (by k_dflt rfl)
    | refine plainObj_wpAny_Assign_Attribute ?_ (by k_dflt rfl))
  | ((show wpAny _ _ (compareOp _ _ _) _ _ _); first
    | refine eq_int_ff (by k_dflt rfl) ?_
    | refine eq_int_tt (by k_dflt rfl) ?_
    | refine in_tup_ff (by assumption) (by k_mem) (.cons _ _ (.cons _ _ .nil)) (by k_dflt rfl) ?_
    | refine in_tup_tt (by assumption) (by k_mem) (.cons _ _ (.cons _ _ .nil)) (by k_dflt rfl) ?_
    | refine wpAny_is_ref_self ?_
    | refine PySem.P.lt_int ?_
    | refine PySem.P.gt_int ?_
    | refine eq_int ?_)
  | ((show wpAny _ _ (getAttr _ _ _) _ _ _); first
    | (refine at_kind (by assumption) (by assumption) (by k_places) (by assumption) ?_; intro s' tk' S')
    | (refine at_setl_number (by assumption) (by assumption) (by k_places) ?_; intro s' tk' S')
    | (refine at_cint (by assumption) (by assumption) (by k_places) ?_; intro s' tk' S')
    | (refine at_cun (by assumption) (by assumption) (by k_places) ?_; intro s' S')
    | (refine at_loc (by assumption) (by assumption) (by k_places) ?_; intro s' tk' S')
    | (refine at_glob (by assumption) (by assumption) (by k_places) ?_; intro s' tk' S')
    | (refine at_lam_label (by assumption) (by assumption) (by k_places) ?_; intro s' tk' S')
    | (refine at_lam_rest (by assumption) (by assumption) (by k_places) ?_; intro s' tk' S')
    | (refine at_lam_params (by assumption) (by assumption) (by k_places) ?_; intro s' pl' vs' e' S' hp' hi')
    | (refine at_fix_numbers (by assumption) (by assumption) (by k_places) ?_; intro s' pl' vs' e' S' hp' hi'))
  | ((show wpAny _ _ (getMethod _ _ _) _ _ _); first
    | refine lmeth (by assumption) (by k_mem) PySem.F.slot_list_pop PySem.F.type_list_pop ?_
    | refine lmeth (by assumption) (by k_mem) PySem.F.slot_list_append PySem.F.type_list_append ?_
    | refine lmeth (by assumption) (by k_mem) PySem.F.slot_list_insert PySem.F.type_list_insert ?_)
  | ((show wpAny _ _ (callWith _ _ _ _ _) _ _ _); first
    | refine callWith_method1 ?_ (by k_dflt rfl) (by k_dflt rfl)
    | refine callWith_method0 ?_)
  | ((show wpAny _ _ (call _ _) _ _ _); first
    | (refine tuple_of (by assumption) (by k_mem) (by k_ownIn) ?_; intro D' s' S')
    | (refine isi_int (by assumption) (by k_mem) ?_; intro s' S')
    | (refine isi_un (by assumption) (by k_mem) ?_; intro s' S')
    | (refine isi_pair (by assumption) ?_; intro s' S')
    | (refine rp_int (by assumption) ?_; intro s' tk' S'))
  | ((show wpAny _ _ (PySem.isTrue _ _ _) _ _ _); first
    | refine wpAny_isTrue_Compare1 ?_ (by k_dflt rfl)
    | refine isTrue_and ?_
    | refine isTrue_and_nil ?_
    | refine isTrue_or ?_
    | refine isTrue_or_nil ?_
    | refine isTrue_plain ?_ (by k_dflt rfl))
  | ((show wpAny _ _ (binaryOp _ _ _) _ _ _); first
    | (refine addS (by assumption) ?_; intro s' tk' S')
    | (refine subS (by assumption) ?_; intro s' tk' S'))
  | ((show wpAny _ _ (unaryOp _ _) _ _ _); refine negS (by assumption) ?_; intro s' tk' S')
  | ((show wpAny _ _ (subscriptTail _ _ _ _) _ _ _); first
    | refine own0 (by assumption) (by decide) (by decide) (by k_dflt rfl) ?_ (by k_dflt rfl))
  | ((show wpAny _ _ (PySem.setItem _ _ _) _ _ _); first
    | (refine set0 (by assumption) ?_; intro s' S')
    | (refine set1 (by assumption) ?_; intro s' S'))
  | ((show _ ∧ wpAny _ _ _ _ _ _); refine And.intro (St.kin (by assumption)) ?_)
  | refine wpAny_execs_cons ?_
  | refine sp1 ?_ (by k_dflt rfl)
  | refine sp0 ?_
  | refine wpAny_truthy_bool ?_
  | refine ite_ff ?_
  | refine ite_tt ?_
  | (refine st_loc (by assumption) (by assumption) ?_; keq_hits; intro s' S')
  | (refine nl (by assumption) ?_ (by k_allIn); intro l' s' S')
  | (refine nt (by assumption) ?_ (by k_allIn); intro l' s' S')
  | refine wpAny_execs_nil ?_
  )
local macro_rules | `(tactic| k_offL) => `(tactic| repeat k_clsL)

theorem value_of {w : World} (d k sz dp : Nat) (hk6 : 6 ≤ k) (hsz : 1 ≤ sz) (hdp1 : 1 ≤ dp) (L : ∀ d', d = d' + 1 → Maker w 555 d' k sz dp 56) : Maker w 550 d (k + 1) (sz + 6) (dp + 3) 60 := by
  intro c m own P s Q E D X a b kn vs ek known u B hkn hi hv hv2 hdp hu ret
  obtain ⟨xs, n, e, t1, t2, S, hD⟩ := B
  have Xf := S.X
  refine wpAny_call ?_
  refine enterM (K := hd.heap_39 _) (cells := [(D, listOf xs.toArray n), (X, listOf [.int a t1, .int b t2].toArray e)]) (rest := own) (P := P)
    (Out := fun cs P' r => ∃ xs' n' e' u1 u2 a' b' t, cs = [(D, listOf (xs' : List Value).toArray n'), (X, listOf [.int a' u1, .int b' u2].toArray e')] ∧ Dk xs' ∧ TR w P' r t ∧ Bl known a b a' b' t ∧ t.size ≤ sz + 6 ∧ t.dep ≤ dp + 3) rfl S (by k_is) (by k_is) (by omega) (by exact BindsTo.of_eq rfl) (by exact rfl) (by kernel_rfl) ?_ ?_
  · intro c' s' gN hd' hu' S'
    dsimp only [List.map] at S'
    have e1 : c'.A.depth + k < recursionLimit := by omega
    have e2 : c'.A.units + 8 * k + 200 < cLine := by omega
    have hv3 : vs.length < 1000 := by omega
    have d1 : c'.A.depth + 1 < recursionLimit := by omega
    have d2 : c'.A.depth + 2 < recursionLimit := by omega
    have d3 : c'.A.depth + 3 < recursionLimit := by omega
    have u8 : c'.A.units + 80 < cLine := by omega
    have u9 : c'.A.units + 90 < cLine := by omega
    have u3 : c'.A.units + 8 * 3 < cLine := by omega
    clear ret S hdp hu hd' hu'
    k_offL
    refine drawB (by assumption) hD (by decide) (by decide) d2 u8 ?_
    intro way tkw s1 B h0 h5
    obtain ⟨xs, n, e, t1, t2, S, hD⟩ := B
    k_offL
    refine ifB (fun hb => ?_) (fun hb => ?_)
    · refine wpAny_execs_cons ?_
      refine wpAny_Assign_Name ?_ (by k_dflt rfl)
      refine cutE (by assumption) (fun m' v s' => ∃ P' a' b' t, BS w c' m' D X [] P' a' b' s' ∧ (∀ p ∈ P, p ∈ P') ∧ TR w P' v t ∧ Bl known a b a' b' t ∧ t.size ≤ sz ∧ t.dep ≤ dp) ?_ ?_
      · k_offL
        refine ifB (fun hd => ?_) (fun hd => ?_)
        · k_offL
          refine drawB (by assumption) hD (by decide) (by decide) d2 u8 ?_
          intro r tkr s1 B hr0 hr3
          obtain ⟨xs, n, e, t1, t2, S, hD⟩ := B
          k_offL
          refine ifB (fun hr => ?_) (fun hr => ?_)
          · k_offL
            obtain ⟨d', rfl⟩ : ∃ d', d = d' + 1 := ⟨d - 1, by have := of_decide_eq_true hd; omega⟩
            rw [show ((d' + 1 : Nat) : Int) - 1 = (d' : Int) by omega]
            refine L d' rfl _ _ _ _ _ _ _ _ _ _ _ _ _ _ _ _ ⟨_, _, _, _, _, by assumption, hD⟩ hkn hi hv (by omega) (by omega) (by omega) ?_
            intro r P' s' a' b' t B hs hT hB h1 h2
            exact ⟨P', a', b', t, B, hs, hT, hB, h1, h2⟩
          · k_offL
            refine oneB (by assumption) hD hkn hi hv hv3 d3 u9 ?_
            intro r tkr s1 B hr
            obtain ⟨xs, n, e, t1, t2, S, hD⟩ := B
            k_offL
            refine useP mk_loc (by assumption) d3 u3 ?_
            intro v P' s' S' hs hT
            exact ⟨P', a, b, _, ⟨_, _, _, _, _, S', hD⟩, hs, hT, Bl.loc hr, by simpa [T.size] using hsz, by simpa [T.dep] using hdp1⟩
        · k_offL
          refine oneB (by assumption) hD hkn hi hv hv3 d3 u9 ?_
          intro r tkr s1 B hr
          obtain ⟨xs, n, e, t1, t2, S, hD⟩ := B
          k_offL
          refine useP mk_loc (by assumption) d3 u3 ?_
          intro v P' s' S' hs hT
          exact ⟨P', a, b, _, ⟨_, _, _, _, _, S', hD⟩, hs, hT, Bl.loc hr, by simpa [T.size] using hsz, by simpa [T.dep] using hdp1⟩
      · rintro v s' ⟨P', a', b', t, B, hs, hT, hB, h1, h2⟩
        obtain ⟨xs, n, e, t1, t2, S, hD⟩ := B
        k_offL
        refine Assign_Tuple_swapped ?_ (by k_dflt rfl) (by k_dflt rfl)
        k_offL
        refine new0B (by assumption) hD d1 u8 ?_
        intro tk1 s1 B
        obtain ⟨xs, n, e, t1, t2, S, hD⟩ := B
        k_offL
        refine new1B (by assumption) hD d1 u8 ?_
        intro tk1 s1 B
        obtain ⟨xs, n, e, t1, t2, S, hD⟩ := B
        k_offL
        refine unp2 (by assumption) (by k_mem) ?_
        intro s2 S2
        refine assignInOrder_cons (wpAny_bindName ?_)
        k_offL
        refine assignInOrder_cons (wpAny_bindName ?_)
        k_offL
        refine assignInOrder_nil ?_
        k_offL
        have hkn1 := hs _ hkn
        refine oneB (by assumption) hD (by k_mem) hi hv hv3 d3 u9 ?_
        intro r tkr s1 B hr
        obtain ⟨xs, n, e, t1, t2, S, hD⟩ := B
        k_offL
        refine useP mk_loc (by assumption) d3 u3 ?_
        intro v1 P1 s1 S1 hs1 hT1
        k_offL
        refine useP mk_loc (by assumption) d3 u3 ?_
        intro v2 P2 s2 S2 hs2 hT2
        k_offL
        refine useP (mk_call (ts := [_]) (TR.mono _ _ _ _ (fun p hp => .tail _ (hs2 _ hp)) hT1) (.head _) (Nds.of (.cons (TR.mono _ _ _ _ (fun p hp => .tail _ hp) hT2) .nil))) (by assumption) d3 u3 ?_
        intro v3 P3 s3 S3 hs3 hT3
        k_offL
        have hT0 := TR.mono _ _ _ _ (fun p hp => hs3 _ (.tail _ (hs2 _ (hs1 _ (.tail _ (.tail _ hp)))))) hT
        refine useP (mk_seq (ts := [_, _]) (.head _) (Nds.of (.cons (TR.mono _ _ _ _ (fun p hp => .tail _ hp) hT3) (.cons (TR.mono _ _ _ _ (fun p hp => .tail _ hp) hT0) .nil)))) (by assumption) d3 u3 ?_
        intro v4 P4 s4 S4 hs4 hT4
        k_offL
        refine useP (mk_lam (hs4 _ (.tail _ (hs3 _ (.tail _ (hs2 _ (hs1 _ (.head _))))))) (IntsAre.cons _ _ .nil) hT4) (by assumption) d3 u3 ?_
        intro v5 P5 s5 S5 hs5 hT5
        k_offL
        refine ⟨_, [(D, _), (X, _)], [], P5, S5, fun p hp => hs5 _ (hs4 _ (.tail _ (hs3 _ (.tail _ (hs2 _ (hs1 _ (.tail _ (.tail _ (hs _ hp))))))))), (by rfl), _, _, _, _, _, _, _, _, rfl, hD, hT5, Bl.lamV hB hr, ?_, ?_⟩
        · simp [T.size, sizes]; omega
        · simp [T.dep, deps]; omega
    · k_offL
      refine ifB (fun hr => ?_) (fun hr => ?_)
      · k_offL
        refine drawB (by assumption) hD (by decide) (by decide) d2 u8 ?_
        intro r tkr s1 B hr0 hr3
        obtain ⟨xs, n, e, t1, t2, S, hD⟩ := B
        obtain ⟨i, rfl⟩ : ∃ i : Fin 8, r = (i.val : Int) := ⟨⟨r.toNat, by omega⟩, by show r = ((r.toNat : Nat) : Int); omega⟩
        k_offL
        refine useP mk_cint (by assumption) d3 u3 ?_
        intro v P' s' S' hs hT
        exact ⟨_, [(D, _), (X, _)], [], P', S', hs, (by rfl), _, _, _, _, _, a, b, _, rfl, hD, hT, Bl.cint, by simp [T.size], by simp [T.dep]⟩
      · k_offL
        refine drawB (by assumption) hD (by decide) (by decide) d2 u8 ?_
        intro r tkr s1 B hr0 hr3
        obtain ⟨xs, n, e, t1, t2, S, hD⟩ := B
        k_offL
        refine useP mk_glob (by assumption) d3 u3 ?_
        intro v1 P1 s1 S1 hs1 hT1
        k_offL
        have hkn1 := hs1 _ hkn
        refine oneB (by assumption) hD (by k_mem) hi hv hv3 d3 u9 ?_
        intro r tkr s1 B hr
        obtain ⟨xs, n, e, t1, t2, S, hD⟩ := B
        k_offL
        refine useP mk_loc (by assumption) d3 u3 ?_
        intro v2 P2 s2 S2 hs2 hT2
        k_offL
        refine useP (mk_call (ts := [_]) (TR.mono _ _ _ _ (fun p hp => .tail _ (hs2 _ hp)) hT1) (.head _) (Nds.of (.cons (TR.mono _ _ _ _ (fun p hp => .tail _ hp) hT2) .nil))) (by assumption) d3 u3 ?_
        intro v3 P3 s3 S3 hs3 hT3
        exact ⟨_, [(D, _), (X, _)], [], P3, S3, fun p hp => hs3 _ (.tail _ (hs2 _ (hs1 _ hp))), (by rfl), _, _, _, _, _, a, b, _, rfl, hD, hT3, Bl.call Bl.glob (Bl.one (Bl.loc hr)), by simp only [T.size, sizes]; omega, by simp only [T.dep, deps]; omega⟩
  · intro r cells' P' s' S' hc hs ho
    obtain ⟨xs', n', e', u1, u2, a', b', t, rfl, hD', hT, hB, h1, h2⟩ := ho
    exact ret _ _ _ _ _ _ ⟨_, _, _, _, _, S', hD'⟩ hs hT hB h1 h2
end Mine
end
section
namespace Mine
theorem enterK {w : World} {c : Cx} {m : Str → Option Value} {own P : Led} {s : Shared} {Q E : Value → Shared → Prop} {K : Frag} {name qual : Str} {params : Arguments} {body : List Stmt} {ns : List (Str × NameKind)} {mo : List (Str × Const)} {dV kV doc pm cdv ct oc : Value} {an od : Option Addr} {osl : Array (Option Value)} {f : Addr} {vs : List Value} {vals : List (Option Value)} {Out : Led → Led → Value → Prop} {clf : Addr → List (Str × Addr)}
    (hK : K = hd.heap_39 w.params) (S : St w c m own P s)
    (ho : K.lookup f = some ⟨oc, od, .func (fnOf name qual params body (fnSc ns mo) dV kV doc pm an cdv ct), osl⟩) (hcd : codeIn K cdv qual = true) (hroom : c.A.depth < recursionLimit)
    (hbind : BindsTo s (fnOf name qual params body (fnSc ns mo) dV kV doc pm an cdv ct) ⟨vs, []⟩ ((params.args.map (·.arg)).zip vs))
    (hkind : (((params.args.map (·.arg)).zip vs).all fun y => ns.lookup y.1 == some .local || ns.lookup y.1 == some .cell) = true) (hnd : ((cellsFrom 0 ns []).map (·.1)).Nodup) (hgood : goodNs ns = true)
    (hcl : ∀ L', cellsFrom (L' + 1) ns [] = clf L')
    (hbL : ∀ L', bindL (envOfC qual (fnSc ns mo) L' f cdv).kindOf ((params.args.map (·.arg)).zip vs) (fun _ => none) = asg ns vals)
    (h : ∀ c' s' cc, goodNs ns = true → c'.A.depth = c.A.depth + 1 → c'.A.units = c.A.units + 3 → CellsAre (bindC (envOfC qual (fnSc ns mo) c'.L f cdv).kindOf ((params.args.map (·.arg)).zip vs) fun _ => none) (clf c'.L) cc → St w c' (asg ns vals) own (cc ++ P) s' →
      wpAny (model PySem.Challenge.rw_pq1024_01.row.prog w) c'.A (execs body (envX qual (fnSc ns mo) c'.L f cdv (clf c'.L))) (fun fl s'' => Ends w c' P (fun cs P' r => cs.map (·.1) = own.map (·.1) ∧ Out cs P' r) (match fl with | .ret v => v | _ => .none) s'') (fun _ _ => False) s')
    (ret : ∀ r own' P' s', St w c m own' P' s' → own'.map (·.1) = own.map (·.1) → (∀ p ∈ P, p ∈ P') → Out own' P' r → Q r s') :
    codeAny (model PySem.Challenge.rw_pq1024_01.row.prog w) c.A (.call (.ref f) ⟨vs, []⟩) (fun r s' => match r with | .ok (.ret v) => Q v s' | .ok _ => False | .error e => E e s') s :=
  enterC hK S ho hcd hroom hbind hkind hnd hgood hbL (fun c' s' cc h1 h2 h3 h4 h5 => by
    have := h c' s' cc h1 h2 h3 (hcl c'.L ▸ h4) h5
    rw [hcl]; exact this) ret
theorem ab_ne {x y : Str} (h : x ≠ y) : ¬ x = y := h
section
variable {w : World} {c : Cx} {m : Str → Option Value} {own P : Led} {s : Shared} {E : Value → Shared → Prop} {Q : Value → Shared → Prop} {cn : Str} {a : Addr} {ccd : Value} {cl : List (Str × Addr)}
theorem ev_cell {ns : List (Str × NameKind)} {mo : List (Str × Const)} {x : Str} {pos : Pos} {cc : Addr} {o : Obj} {v : Value} (S : St w c m own P s) (g : goodNs ns = true) (hc : cl.lookup x = some cc) (hm : (cc, o) ∈ P) (hd : o.data = .cell (some v)) (hx : (x, NameKind.cell) ∈ ns) (h : Q v s) :
    wpAny (model PySem.Challenge.rw_pq1024_01.row.prog w) c.A (eval (.Name x pos) (envX cn (fnSc ns mo) c.L a ccd cl)) Q E s := nameX_C S.N hc (List.mem_append_right _ hm) hd h rfl (goodNs_mem g hx).1 (goodNs_mem g hx).2
theorem cv_cell {C cc : Addr} {o : Obj} {scope : Scope} {env : Env} {x : Str} {pos : Pos} {v : Value} (S : St w c m own P s) (hc : cl.lookup x = some cc) (hm : (cc, o) ∈ P) (hd : o.data = .cell (some v)) (h : Q v s)
    (hk : (compEnvC scope cl C env).scope.kind = .function) (hx : (compEnvC scope cl C env).kindOf x = some .cell) (hb : (x == ("__debug__" : Str)) = false := by decide) :
    wpAny (model PySem.Challenge.rw_pq1024_01.row.prog w) c.A (eval (.Name x pos) (compEnvC scope cl C env)) Q E s := lcf_cell S.N hc (List.mem_append_right _ hm) hd h hk hx hb
theorem cv_loc {C : Addr} {m₂ : Str → Option Value} {scope : Scope} {env : Env} {x : Str} {pos : Pos} {v : Value} {oC : Obj} (S : St w c m own P s) (hm : (C, oC) ∈ own) (hC : LCg.NsObj oC m₂) (hx : m₂ x = some v) (h : Q v s)
    (hk : (compEnvC scope cl C env).scope.kind = .function) (hl : (compEnvC scope cl C env).kindOf x = some .local) (hd : (x == ("__debug__" : Str)) = false := by decide) :
    wpAny (model PySem.Challenge.rw_pq1024_01.row.prog w) c.A (eval (.Name x pos) (compEnvC scope cl C env)) Q E s := LCgL.ld_own S.N (List.mem_append_left _ hm) hC hx h hk hl hd
theorem ccall2 {C : Addr} {scope : Scope} {env : Env} {x : Str} {px pos : Pos} {fv : Value} {e1 e2 : Expr} (S : St w c m own P s) (e : nsIn (hd.heap_39 w.params) mainGlobals x = some (some fv)) (hkp : keepIn (hd.heap_39 w.params) fv = true)
    (h : wpAny (model PySem.Challenge.rw_pq1024_01.row.prog w) c.A (eval e1 (compEnvC scope cl C env)) (fun v1 s1 => wpAny (model PySem.Challenge.rw_pq1024_01.row.prog w) c.A (eval e2 (compEnvC scope cl C env)) (fun v2 s2 => (hd.heap_39 w.params).In s2.heap ∧ wpAny (model PySem.Challenge.rw_pq1024_01.row.prog w) c.A (call fv [v1, v2]) Q E s2) E s1) E s) (hg : env.globals = mainGlobals)
    (hk : (compEnvC scope cl C env).scope.kind = .function) (hx : (compEnvC scope cl C env).kindOf x = some .globalImplicit)
    (he1 : starEach [e1, e2] (compEnvC scope cl C env) = (false, eval e1 (compEnvC scope cl C env)) :: starEach [e2] (compEnvC scope cl C env)) (he2 : starEach [e2] (compEnvC scope cl C env) = [(false, eval e2 (compEnvC scope cl C env))]) (hd : (x == ("__debug__" : Str)) = false := by decide) :
    wpAny (model PySem.Challenge.rw_pq1024_01.row.prog w) c.A (eval (.Call (.Name x px) [e1, e2] [] pos) (compEnvC scope cl C env)) Q E s := by
  refine Call_ (cv_glob S e ?_ hg hk hx hd)
  refine callWith_K S.X hkp ?_ he1 (by rw [he2]; rfl)
  exact args_cons (wpAny_mono h (fun v s1 h1 => args_cons (wpAny_mono h1 (fun v2 s2 h2 => args_nil h2) fun _ _ e => e) he2) fun _ _ e => e) he1
theorem src_range1 {target : Expr} {n : Int} {t : Tok} {k : Nat} (S : St w c m own P s) (hk : n = (k : Nat)) (hb : k < 2 ^ 30)
    (h : ∀ I s', St w c m own P s' → Itr w c target own P I s' k (fun i v _ => ∃ t, v = .int ((i : Nat) : Int) t) → Q (.ref I) s') :
    wpAny (model PySem.Challenge.rw_pq1024_01.row.prog w) c.A (call (.type "range") [.int n t]) (fun xv s₁ => wpAny (model PySem.Challenge.rw_pq1024_01.row.prog w) c.A (pyIter xv) Q E s₁) E s := by
  subst hk
  refine call_range_1 ?_
  refine src_range (target := target) (k := k) ((S.push _).tok _) (IsRange.new _ _ _ _ _ _ _) (Int.le_refl 0) (by omega) (by omega) fun I s' S' hI => h I s' S' ?_
  simpa only [Int.zero_add] using hI
theorem insS {D : Addr} {xs : List Value} {n : Nat} {x : Value} {k : Int} {u : Tok} (S : St w c m ((D, listOf xs.toArray n) :: own) P s) (h0 : 0 ≤ k) (hk : k < 1000000) (hz : xs.length ≤ 1000000)
    (h : ∀ s' j, St w c m ((D, listOf (xs.take j ++ x :: xs.drop j).toArray (n + 1)) :: own) P s' → Q .none s') : wpAny (model PySem.Challenge.rw_pq1024_01.row.prog w) c.A (call (.builtin "list.insert") [.ref D, .int k u, x]) Q E s :=
  kl_insert S.F S.N (by simp [Builtin.List.listFitsIndex]; omega) rfl (S.upd rfl) (fits_le hz) fun h' F' N' => h _ _ (S.setO rfl (tk := s.toks) F' N')
end
def nf (a : Int) : Nat → List Int
  | 0 => []
  | i + 1 => nf a i ++ [a + (i : Int) + 1]
theorem nf_in (a : Int) : ∀ i : Nat, In a (a + i) (nf a i)
  | 0 => In.nil
  | i + 1 => by
    have := (nf_in a i).append (In.one (a := a + i) (b := a + (i + 1 : Nat)) (i := a + (i : Int) + 1) (by omega) (by omega)) (by omega) (by omega)
    exact this
theorem nf_len (a : Int) : ∀ i : Nat, (nf a i).length = i
  | 0 => rfl
  | i + 1 => by simp [nf, nf_len a i]
theorem All2.append {δ : Type} {R : Value → δ → Prop} : ∀ {vs us : List Value} {ds es : List δ}, All2 R vs ds → All2 R us es → All2 R (vs ++ us) (ds ++ es)
  | _, _, _, _, .nil, k => k
  | _, _, _, _, .cons h r, k => .cons h (r.append k)
theorem All2.take {δ : Type} {R : Value → δ → Prop} : ∀ {vs : List Value} {ds : List δ} (j : Nat), All2 R vs ds → All2 R (vs.take j) (ds.take j)
  | _, _, 0, _ => .nil
  | _, _, _ + 1, .nil => .nil
  | _, _, j + 1, .cons h r => .cons h (r.take j)
theorem All2.drop {δ : Type} {R : Value → δ → Prop} : ∀ {vs : List Value} {ds : List δ} (j : Nat), All2 R vs ds → All2 R (vs.drop j) (ds.drop j)
  | _, _, 0, h => h
  | _, _, _ + 1, .nil => .nil
  | _, _, j + 1, .cons _ r => r.drop j
theorem Scs_app {vis : List Int} : ∀ {p q : List T}, Scs vis (p ++ q) → Scs vis p ∧ Scs vis q
  | [], _, h => ⟨trivial, h⟩
  | _ :: _, _, h => ⟨⟨h.1, (Scs_app h.2).1⟩, (Scs_app h.2).2⟩
theorem Bls.ins {vis : List Int} {a b a' b' : Int} {ts : List T} {u : T} (h : Bls vis a b a' b' ts) (j : Nat) (hs : Sc vis u) (hb : binds u = []) (hl : labs u = []) : Bls vis a b a' b' (ts.take j ++ u :: ts.drop j) := by
  have e : ts = ts.take j ++ ts.drop j := (List.take_append_drop j ts).symm
  have h1 := h.sc
  have h2 := h.bi
  have h3 := h.la
  rw [e] at h1 h2 h3
  rw [bindss_append] at h2
  rw [labss_append] at h3
  refine ⟨Scs_append (Scs_app h1).1 ⟨hs, (Scs_app h1).2⟩, ?_, ?_, h.ha, h.hb⟩
  · rw [bindss_append]; show In a a' (bindss _ ++ (binds u ++ bindss _)); rw [hb]; exact h2
  · rw [labss_append]; show In b b' (labss _ ++ (labs u ++ labss _)); rw [hl]; exact h3
theorem sizes_ins (ts : List T) (u : T) (j : Nat) : sizes (ts.take j ++ u :: ts.drop j) = sizes ts + u.size := by
  have e : sizes ts = sizes (ts.take j) + sizes (ts.drop j) := by rw [← sizes_append, List.take_append_drop]
  rw [sizes_append, e]; simp only [sizes]; omega
theorem deps_ins (ts : List T) (u : T) (j : Nat) : deps (ts.take j ++ u :: ts.drop j) = max (deps ts) u.dep := by
  have e : deps ts = max (deps (ts.take j)) (deps (ts.drop j)) := by rw [← deps_append, List.take_append_drop]
  rw [deps_append, e]; simp only [deps]; omega
theorem len_ins {α : Type} (ts : List α) (u : α) (j : Nat) : (ts.take j ++ u :: ts.drop j).length = ts.length + 1 := by
  have e : ts.length = (ts.take j).length + (ts.drop j).length := by rw [← List.length_append, List.take_append_drop]
  rw [List.length_append, List.length_cons, e]; omega
theorem consts_of : ∀ {ts : List T}, (∀ t ∈ ts, t = .cun ∨ t = .cint 3) → (∀ vis, Scs vis ts) ∧ bindss ts = [] ∧ labss ts = [] ∧ sizes ts = ts.length ∧ deps ts ≤ 1
  | [], _ => ⟨fun _ => trivial, rfl, rfl, rfl, by simp [deps]⟩
  | t :: r, h => by
    obtain ⟨h1, h2, h3, h4, h5⟩ := consts_of (ts := r) fun t ht => h t (.tail _ ht)
    rcases h t (.head _) with rfl | rfl
    · exact ⟨fun vis => ⟨trivial, h1 vis⟩, by simpa [bindss, binds] using h2, by simpa [labss, labs] using h3, by simp only [sizes, T.size, h4, List.length_cons]; omega, by simp only [deps, T.dep]; omega⟩
    · exact ⟨fun vis => ⟨trivial, h1 vis⟩, by simpa [bindss, binds] using h2, by simpa [labss, labs] using h3, by simp only [sizes, T.size, h4, List.length_cons]; omega, by simp only [deps, T.dep]; omega⟩
/-- the let that is built -/
theorem Bl.letL {known numbers : List Int} {a b a0 a1 b1 b2 : Int} {rows begins : List T} (hn : In a a0 numbers) (ha : a ≤ a0) (hb : b < b1) (hr : Bls (known ++ numbers) a0 b1 a1 b2 rows) (hc : ∀ t ∈ begins, t = .cun ∨ t = .cint 3) : Bl known a b a1 b2 (.call (.lam b1 numbers (.seq rows)) begins) := by
  obtain ⟨h1, h2, h3, _, _⟩ := consts_of hc
  refine ⟨⟨?_, h1 _⟩, ?_, ?_, by have := hr.ha; omega, by have := hr.hb; omega⟩
  · show Sc (numbers ++ known) (.seq rows)
    exact Scs_mono (fun n hn => by
      rcases List.mem_append.mp hn with hn | hn
      · exact List.mem_append_right _ hn
      · exact List.mem_append_left _ hn) hr.sc
  · show In a a1 ((numbers ++ bindss rows) ++ bindss begins)
    rw [h2, List.append_nil]
    exact hn.append hr.bi ha hr.ha
  · show In b b2 ((b1 :: labss rows) ++ labss begins)
    rw [h3, List.append_nil]
    exact (In.one (a := b) (b := b1) (i := b1) hb (Int.le_refl _)).append hr.la (by omega) hr.hb
end Mine
end
section
namespace Mine
theorem bindL_loc {kindOf : Str → Option NameKind} {n : Str} {v : Value} {r : List (Str × Value)} {m : Str → Option Value} (h : kindOf n = some .local) : bindL kindOf ((n, v) :: r) m = bindL kindOf r (fun y => if y = n then some v else m y) := by
  rw [bindL, if_pos h]
theorem bindL_cell {kindOf : Str → Option NameKind} {n : Str} {v : Value} {r : List (Str × Value)} {m : Str → Option Value} (h : kindOf n = some .cell) : bindL kindOf ((n, v) :: r) m = bindL kindOf r m := by
  rw [bindL, if_neg (by rw [h]; decide)]
theorem bindL_nil {kindOf : Str → Option NameKind} {m : Str → Option Value} : bindL kindOf [] m = m := rfl
theorem asg_cc {A B C D : Str} {kA kB kC kD : NameKind} {x y : Value} {r : List (Str × NameKind)} (h : goodNs ((A, kA) :: (B, kB) :: (C, kC) :: (D, kD) :: r) = true) :
    (fun z => if z = D then some y else if z = C then some x else none) = asg ((A, kA) :: (B, kB) :: (C, kC) :: (D, kD) :: r) [none, none, some x, some y] := by
  have g1 := goodNs_ne h
  have g2 := goodNs_ne g1.2.2
  have g3 := goodNs_ne g2.2.2
  have n1 : C ≠ A := g1.1 _ (.tail _ (.head _))
  have n2 : D ≠ A := g1.1 _ (.tail _ (.tail _ (.head _)))
  have n3 : C ≠ B := g2.1 _ (.head _)
  have n4 : D ≠ B := g2.1 _ (.tail _ (.head _))
  have n5 : D ≠ C := g3.1 _ (.head _)
  funext z
  simp only [asg, asg_nil]
  by_cases h1 : z = D
  · subst h1; simp [n2, n4, n5]
  · by_cases h2 : z = C
    · subst h2; simp [n1, n3, h1]
    · simp [h1, h2]
section
variable {w : World} {c : Cx} {m : Str → Option Value} {own P : Led} {s : Shared} {E : Value → Shared → Prop}
theorem compR {x : Str} {px : Pos} {elt : Expr} {ifs : List Expr} {scope : Scope} {cl : List (Str × Addr)} {env : Env} {Fin : Led → Led → List Value → Addr → Prop} {n : Int} {t : Tok} {k : Nat} (S : St w c m own P s) (hk : n = (k : Nat)) (hb : k ≤ 1000000) (hkind : scope.kind = .function) (hx : scope.names.lookup x = some .local)
    (J : Nat → Led → Led → List Value → Prop) (h0 : J 0 own P [])
    (step : ∀ i own₁ P₁ P₁' tl C oC m₂ ys s₂ E', i < k → J i own₁ P₁ ys → (∃ t, m₂ x = some (.int ((i : Nat) : Int) t)) → LCg.NsObj oC m₂ → (C, oC) ∈ tl → St w c m (own₁ ++ tl) P₁' s₂ → (∀ p ∈ P₁, p ∈ P₁') →
      Stage w c.A (compEnvC scope cl C env) ifs elt (fun o s₄ => ∃ own₂ P₂, St w c m (own₂ ++ tl) P₂ s₄ ∧ (∀ p ∈ P₁', p ∈ P₂) ∧ J (i + 1) own₂ P₂ (ys ++ o.toList)) E' s₂)
    (fin : ∀ own' P' ys D, J k own' P' ys → Fin own' P' ys D) :
    wpAny (model PySem.Challenge.rw_pq1024_01.row.prog w) c.A (call (.type "range") [.int n t]) (fun xv s₁ => wpAny (model PySem.Challenge.rw_pq1024_01.row.prog w) c.A (pyIter xv) (CompAt w c m (.Name x px) elt ifs scope cl env Fin) E s₁) E s := by
  refine src_range1 (target := .Name x px) (k := k) S hk (by omega) fun I s2 S2 hI => ?_
  refine ⟨I, _, _, k, _, fun i m₂ => ∃ t, m₂ x = some (.int ((i : Nat) : Int) t), J, rfl, S2, hI, hb, ?_, h0, step, fin⟩
  rintro i v C m₁ own₁ P₁ ys s₁ Q E hi ⟨t, rfl⟩ hJ hg hn h
  exact asgC_name hkind hx hn fun h' tk m₂ hn' hx hk => h h' tk m₂ hn' ⟨t, hx⟩ hk
theorem compL {x : Str} {px : Pos} {elt : Expr} {ifs : List Expr} {scope : Scope} {cl : List (Str × Addr)} {env : Env} {Fin : Led → Led → List Value → Addr → Prop} {l : Addr} {vs : List Value} {e : Nat} (S : St w c m own P s) (hl : (l, listOf vs.toArray e) ∈ P) (hb : vs.length ≤ 1000000) (hkind : scope.kind = .function) (hx : scope.names.lookup x = some .local)
    (J : Nat → Led → Led → List Value → Prop) (h0 : J 0 own P [])
    (step : ∀ i own₁ P₁ P₁' tl C oC m₂ ys s₂ E', i < vs.length → J i own₁ P₁ ys → m₂ x = vs[i]? → LCg.NsObj oC m₂ → (C, oC) ∈ tl → St w c m (own₁ ++ tl) P₁' s₂ → (∀ p ∈ P₁, p ∈ P₁') →
      Stage w c.A (compEnvC scope cl C env) ifs elt (fun o s₄ => ∃ own₂ P₂, St w c m (own₂ ++ tl) P₂ s₄ ∧ (∀ p ∈ P₁', p ∈ P₂) ∧ J (i + 1) own₂ P₂ (ys ++ o.toList)) E' s₂)
    (fin : ∀ own' P' ys D, J vs.length own' P' ys → Fin own' P' ys D) :
    wpAny (model PySem.Challenge.rw_pq1024_01.row.prog w) c.A (pyIter (.ref l)) (CompAt w c m (.Name x px) elt ifs scope cl env Fin) E s := by
  refine src_list (target := .Name x px) S hl fun I s2 S2 hI => ?_
  refine ⟨I, _, _, vs.length, _, fun i m₂ => m₂ x = vs[i]?, J, rfl, S2, hI, hb, ?_, h0, step, fin⟩
  rintro i v C m₁ own₁ P₁ ys s₁ Q E hi hv hJ hg hn h
  exact asgC_name hkind hx hn fun h' tk m₂ hn' hx hk => h h' tk m₂ hn' (hx.trans hv.symm) hk
theorem compT {x : Str} {px : Pos} {elt : Expr} {ifs : List Expr} {scope : Scope} {cl : List (Str × Addr)} {env : Env} {Fin : Led → Led → List Value → Addr → Prop} {l : Addr} {vs : List Value} {e : Nat} (S : St w c m own P s) (hl : (l, tupOf vs e) ∈ P) (hb : vs.length ≤ 1000000) (hkind : scope.kind = .function) (hx : scope.names.lookup x = some .local)
    (J : Nat → Led → Led → List Value → Prop) (h0 : J 0 own P [])
    (step : ∀ i own₁ P₁ P₁' tl C oC m₂ ys s₂ E', i < vs.length → J i own₁ P₁ ys → m₂ x = vs[i]? → LCg.NsObj oC m₂ → (C, oC) ∈ tl → St w c m (own₁ ++ tl) P₁' s₂ → (∀ p ∈ P₁, p ∈ P₁') →
      Stage w c.A (compEnvC scope cl C env) ifs elt (fun o s₄ => ∃ own₂ P₂, St w c m (own₂ ++ tl) P₂ s₄ ∧ (∀ p ∈ P₁', p ∈ P₂) ∧ J (i + 1) own₂ P₂ (ys ++ o.toList)) E' s₂)
    (fin : ∀ own' P' ys D, J vs.length own' P' ys → Fin own' P' ys D) :
    wpAny (model PySem.Challenge.rw_pq1024_01.row.prog w) c.A (pyIter (.ref l)) (CompAt w c m (.Name x px) elt ifs scope cl env Fin) E s := by
  refine src_tup (target := .Name x px) S hl fun I s2 S2 hI => ?_
  refine ⟨I, _, _, vs.length, _, fun i m₂ => m₂ x = vs[i]?, J, rfl, S2, hI, hb, ?_, h0, step, fin⟩
  rintro i v C m₁ own₁ P₁ ys s₁ Q E hi hv hJ hg hn h
  exact asgC_name hkind hx hn fun h' tk m₂ hn' hx hk => h h' tk m₂ hn' (hx.trans hv.symm) hk
theorem comp_assignS {own P : Led} {target elt iter : Expr} {ifs : List Expr} {scope : Scope} {cl : List (Str × Addr)} {pos spos py : Pos} {Q : Flow → Shared → Prop} {cn : Str} {ns : List (Str × NameKind)} {mo : List (Str × Const)} {a : Addr} {ccd : Value} {ecl : List (Str × Addr)} {vals : List (Option Value)} {y : Str} (_S : St w c (asg ns vals) own P s) (g : goodNs ns = true)
    (hsw : swapsWith (.ListComp elt [⟨target, iter, ifs, 0⟩] scope pos) (some (.Name y py)) spos.line (envX cn (fnSc ns mo) c.L a ccd ecl) = pure true)
    (hifs : ifs.length ≤ 1) (hclos : closureFor scope (envX cn (fnSc ns mo) c.L a ccd ecl) = pure cl) (hcell : ∀ y ∈ scope.names, y.2 ≠ .cell) (hkind : scope.kind = .function) (hnames : ∀ y ∈ scope.names, y.2 = .local → scope.names.lookup y.1 = some .local) (hs : ∀ x, foldedSetIterable iter (envX cn (fnSc ns mo) c.L a ccd ecl) x = pure x)
    (h : wpAny (model PySem.Challenge.rw_pq1024_01.row.prog w) c.A (eval iter (envX cn (fnSc ns mo) c.L a ccd ecl)) (fun xv s₁ => wpAny (model PySem.Challenge.rw_pq1024_01.row.prog w) c.A (pyIter xv) (CompAt w c (asg ns vals) target elt ifs scope cl (envX cn (fnSc ns mo) c.L a ccd ecl) (fun own' P' ys D => SetQ ns vals y (.ref D) (fun vals' => ∀ s', St w c (asg ns vals') own' ((D, LCg.lst ys) :: P') s' → Q .next s'))) E s₁) E s) :
    wpAny (model PySem.Challenge.rw_pq1024_01.row.prog w) c.A (exec (.Assign [.Name y py] (.ListComp elt [⟨target, iter, ifs, 0⟩] scope pos) spos) (envX cn (fnSc ns mo) c.L a ccd ecl)) Q E s :=
  comp_assign g hsw hifs hclos hcell hkind hnames hs h
theorem cutF {α : Type} {t : Sem α} {Q : α → Shared → Prop} (S : St w c m own P s) (Mid : (Str → Option Value) → α → Shared → Prop) (h1 : wpAny (model PySem.Challenge.rw_pq1024_01.row.prog w) c.A t (Mid m) E s) (h2 : ∀ v s', Mid m v s' → Q v s') : wpAny (model PySem.Challenge.rw_pq1024_01.row.prog w) c.A t Q E s :=
  wpAny_mono h1 h2 fun _ _ e => e
theorem For_ {target iter : Expr} {pos : Pos} {cn : Str} {ns : List (Str × NameKind)} {mo : List (Str × Const)} {a₀ : Addr} {ccd : Value} {cl : List (Str × Addr)} {body : List Stmt} {Q : Flow → Shared → Prop} (S : St w c m own P s)
    (h : wpAny (model PySem.Challenge.rw_pq1024_01.row.prog w) c.A (eval iter (envX cn (fnSc ns mo) c.L a₀ ccd cl)) (fun xv s₁ => wpAny (model PySem.Challenge.rw_pq1024_01.row.prog w) c.A (pyIter xv) (fun it s₂ => TurnsAt PySem.Challenge.rw_pq1024_01.row.prog w c.A c.g (envX cn (fnSc ns mo) c.L a₀ ccd cl) target body Q (fun _ _ => False) it s₂) (fun _ _ => False) s₁) (fun _ _ => False) s) (hs : ∀ x, foldedSetIterable iter (envX cn (fnSc ns mo) c.L a₀ ccd cl) x = pure x) :
    wpAny (model PySem.Challenge.rw_pq1024_01.row.prog w) c.A (exec (.For target iter body [] pos) (envX cn (fnSc ns mo) c.L a₀ ccd cl)) Q (fun _ _ => False) s := For_turns (m := m) S.F h hs
theorem forR {x : Str} {px : Pos} {n : Int} {t : Tok} {k : Nat} {cn : Str} {ns : List (Str × NameKind)} {mo : List (Str × Const)} {a₀ : Addr} {ccd : Value} {cl : List (Str × Addr)} {vals : List (Option Value)} {body : List Stmt} {Q : Flow → Shared → Prop} (S : St w c (asg ns vals) own P s) (g : goodNs ns = true) (hk : n = (k : Nat)) (hb : k ≤ 1000000)
    (J : Nat → List (Option Value) → Led → Led → Prop) (h0 : J 0 vals own P)
    (step : ∀ i t vals₁ own₁ P₁ P₁' W s₁, i < k → J i vals₁ own₁ P₁ → St w c (asg ns vals₁) (own₁ ++ W) P₁' s₁ → (∀ p ∈ P₁, p ∈ P₁') →
      SetQ ns vals₁ x (.int ((i : Nat) : Int) t) (fun vals' => ∀ s', St w c (asg ns vals') (own₁ ++ W) P₁' s' → wpAny (model PySem.Challenge.rw_pq1024_01.row.prog w) c.A (execs body (envX cn (fnSc ns mo) c.L a₀ ccd cl)) (fun f s₃ => match f with
        | .ret v => Q (.ret v) s₃
        | .brk => Q .next s₃
        | _ => ∃ vals₂ own₂ P₂, St w c (asg ns vals₂) (own₂ ++ W) P₂ s₃ ∧ (∀ p ∈ P₁', p ∈ P₂) ∧ J (i + 1) vals₂ own₂ P₂) E s'))
    (fin : ∀ vals' own' P' s', St w c (asg ns vals') own' P' s' → J k vals' own' P' → Q .next s') :
    wpAny (model PySem.Challenge.rw_pq1024_01.row.prog w) c.A (call (.type "range") [.int n t]) (fun xv s₁ => wpAny (model PySem.Challenge.rw_pq1024_01.row.prog w) c.A (pyIter xv) (fun it s₂ => TurnsAt PySem.Challenge.rw_pq1024_01.row.prog w c.A c.g (envX cn (fnSc ns mo) c.L a₀ ccd cl) (.Name x px) body Q E it s₂) E s₁) E s := by
  refine src_range1 (target := .Name x px) (k := k) S hk (by omega) fun I s2 S2 hI => ?_
  refine for_St (P := P) (own := own) (m := asg ns vals) rfl S2 hI (fun i m own₁ P₁ => ∃ vals₁, m = asg ns vals₁ ∧ J i vals₁ own₁ P₁) ⟨vals, rfl, h0⟩ ?_ ?_
  · rintro i v m₁ own₁ P₁ P₁' W s₁ hi hp ⟨vals₁, rfl, hJ⟩ S hs
    obtain ⟨t, rfl⟩ := hp
    have hst := step i t vals₁ own₁ P₁ P₁' W s₁ hi hJ S hs
    refine wpAny_assign_Name (st_loc S g ?_)
    obtain ⟨vals', hl, hst⟩ := hst
    refine ⟨vals', hl, fun s' S' => ?_⟩
    have h := hst s' S'
    refine wpAny_mono h (fun f s₃ h₃ => ?_) fun _ _ e => e
    cases f with
    | ret v => exact h₃
    | brk => exact h₃
    | next => obtain ⟨v2, o2, P2, S3, hs3, hJ3⟩ := h₃; exact ⟨_, o2, P2, S3, hs3, v2, rfl, hJ3⟩
    | cont => obtain ⟨v2, o2, P2, S3, hs3, hJ3⟩ := h₃; exact ⟨_, o2, P2, S3, hs3, v2, rfl, hJ3⟩
  · rintro m' own' P' s' S ⟨v', rfl, hJ⟩
    exact fin v' own' P' s' S hJ
theorem forL {x : Str} {px : Pos} {l : Addr} {vs : List Value} {e : Nat} {cn : Str} {ns : List (Str × NameKind)} {mo : List (Str × Const)} {a₀ : Addr} {ccd : Value} {cl : List (Str × Addr)} {vals : List (Option Value)} {body : List Stmt} {Q : Flow → Shared → Prop} (S : St w c (asg ns vals) own P s) (g : goodNs ns = true) (hl : (l, listOf vs.toArray e) ∈ P)
    (J : Nat → List (Option Value) → Led → Led → Prop) (h0 : J 0 vals own P)
    (step : ∀ i v vals₁ own₁ P₁ P₁' W s₁, i < vs.length → vs[i]? = some v → J i vals₁ own₁ P₁ → St w c (asg ns vals₁) (own₁ ++ W) P₁' s₁ → (∀ p ∈ P₁, p ∈ P₁') →
      SetQ ns vals₁ x v (fun vals' => ∀ s', St w c (asg ns vals') (own₁ ++ W) P₁' s' → wpAny (model PySem.Challenge.rw_pq1024_01.row.prog w) c.A (execs body (envX cn (fnSc ns mo) c.L a₀ ccd cl)) (fun f s₃ => match f with
        | .ret v => Q (.ret v) s₃
        | .brk => Q .next s₃
        | _ => ∃ vals₂ own₂ P₂, St w c (asg ns vals₂) (own₂ ++ W) P₂ s₃ ∧ (∀ p ∈ P₁', p ∈ P₂) ∧ J (i + 1) vals₂ own₂ P₂) E s'))
    (fin : ∀ vals' own' P' s', St w c (asg ns vals') own' P' s' → J vs.length vals' own' P' → Q .next s') :
    wpAny (model PySem.Challenge.rw_pq1024_01.row.prog w) c.A (pyIter (.ref l)) (fun it s₂ => TurnsAt PySem.Challenge.rw_pq1024_01.row.prog w c.A c.g (envX cn (fnSc ns mo) c.L a₀ ccd cl) (.Name x px) body Q E it s₂) E s := by
  refine src_list (target := .Name x px) S hl fun I s2 S2 hI => ?_
  refine for_St (P := P) (own := own) (m := asg ns vals) rfl S2 hI (fun i m own₁ P₁ => ∃ vals₁, m = asg ns vals₁ ∧ J i vals₁ own₁ P₁) ⟨vals, rfl, h0⟩ ?_ ?_
  · rintro i v m₁ own₁ P₁ P₁' W s₁ hi hp ⟨vals₁, rfl, hJ⟩ S hs
    have hst := step i v vals₁ own₁ P₁ P₁' W s₁ hi hp hJ S hs
    refine wpAny_assign_Name (st_loc S g ?_)
    obtain ⟨vals', hl, hst⟩ := hst
    refine ⟨vals', hl, fun s' S' => ?_⟩
    have h := hst s' S'
    refine wpAny_mono h (fun f s₃ h₃ => ?_) fun _ _ e => e
    cases f with
    | ret v => exact h₃
    | brk => exact h₃
    | next => obtain ⟨v2, o2, P2, S3, hs3, hJ3⟩ := h₃; exact ⟨_, o2, P2, S3, hs3, v2, rfl, hJ3⟩
    | cont => obtain ⟨v2, o2, P2, S3, hs3, hJ3⟩ := h₃; exact ⟨_, o2, P2, S3, hs3, v2, rfl, hJ3⟩
  · rintro m' own' P' s' S ⟨v', rfl, hJ⟩
    exact fin v' own' P' s' S hJ
theorem forT {x : Str} {px : Pos} {l : Addr} {vs : List Value} {e : Nat} {cn : Str} {ns : List (Str × NameKind)} {mo : List (Str × Const)} {a₀ : Addr} {ccd : Value} {cl : List (Str × Addr)} {vals : List (Option Value)} {body : List Stmt} {Q : Flow → Shared → Prop} (S : St w c (asg ns vals) own P s) (g : goodNs ns = true) (hl : (l, tupOf vs e) ∈ P)
    (J : Nat → List (Option Value) → Led → Led → Prop) (h0 : J 0 vals own P)
    (step : ∀ i v vals₁ own₁ P₁ P₁' W s₁, i < vs.length → vs[i]? = some v → J i vals₁ own₁ P₁ → St w c (asg ns vals₁) (own₁ ++ W) P₁' s₁ → (∀ p ∈ P₁, p ∈ P₁') →
      SetQ ns vals₁ x v (fun vals' => ∀ s', St w c (asg ns vals') (own₁ ++ W) P₁' s' → wpAny (model PySem.Challenge.rw_pq1024_01.row.prog w) c.A (execs body (envX cn (fnSc ns mo) c.L a₀ ccd cl)) (fun f s₃ => match f with
        | .ret v => Q (.ret v) s₃
        | .brk => Q .next s₃
        | _ => ∃ vals₂ own₂ P₂, St w c (asg ns vals₂) (own₂ ++ W) P₂ s₃ ∧ (∀ p ∈ P₁', p ∈ P₂) ∧ J (i + 1) vals₂ own₂ P₂) E s'))
    (fin : ∀ vals' own' P' s', St w c (asg ns vals') own' P' s' → J vs.length vals' own' P' → Q .next s') :
    wpAny (model PySem.Challenge.rw_pq1024_01.row.prog w) c.A (pyIter (.ref l)) (fun it s₂ => TurnsAt PySem.Challenge.rw_pq1024_01.row.prog w c.A c.g (envX cn (fnSc ns mo) c.L a₀ ccd cl) (.Name x px) body Q E it s₂) E s := by
  refine src_tup (target := .Name x px) S hl fun I s2 S2 hI => ?_
  refine for_St (P := P) (own := own) (m := asg ns vals) rfl S2 hI (fun i m own₁ P₁ => ∃ vals₁, m = asg ns vals₁ ∧ J i vals₁ own₁ P₁) ⟨vals, rfl, h0⟩ ?_ ?_
  · rintro i v m₁ own₁ P₁ P₁' W s₁ hi hp ⟨vals₁, rfl, hJ⟩ S hs
    have hst := step i v vals₁ own₁ P₁ P₁' W s₁ hi hp hJ S hs
    refine wpAny_assign_Name (st_loc S g ?_)
    obtain ⟨vals', hl, hst⟩ := hst
    refine ⟨vals', hl, fun s' S' => ?_⟩
    have h := hst s' S'
    refine wpAny_mono h (fun f s₃ h₃ => ?_) fun _ _ e => e
    cases f with
    | ret v => exact h₃
    | brk => exact h₃
    | next => obtain ⟨v2, o2, P2, S3, hs3, hJ3⟩ := h₃; exact ⟨_, o2, P2, S3, hs3, v2, rfl, hJ3⟩
    | cont => obtain ⟨v2, o2, P2, S3, hs3, hJ3⟩ := h₃; exact ⟨_, o2, P2, S3, hs3, v2, rfl, hJ3⟩
  · rintro m' own' P' s' S ⟨v', rfl, hJ⟩
    exact fin v' own' P' s' S hJ
theorem forZ {x y : Str} {px py tp : Pos} {kk : Nat} {l1 l2 : Addr} {xs ys : List Value} {e1 e2 : Nat} {cn : Str} {ns : List (Str × NameKind)} {mo : List (Str × Const)} {a₀ : Addr} {ccd : Value} {cl : List (Str × Addr)} {vals : List (Option Value)} {body : List Stmt} {Q : Flow → Shared → Prop} (S : St w c (asg ns vals) own P s) (g : goodNs ns = true) (hl1 : (l1, listOf xs.toArray e1) ∈ P) (hl2 : (l2, listOf ys.toArray e2) ∈ P)
    (J : Nat → List (Option Value) → Led → Led → Prop) (h0 : J 0 vals own P)
    (step : ∀ i u v vals₁ own₁ P₁ P₁' W s₁, i < (min xs.length ys.length) → xs[i]? = some u → ys[i]? = some v → J i vals₁ own₁ P₁ → St w c (asg ns vals₁) (own₁ ++ W) P₁' s₁ → (∀ p ∈ P₁, p ∈ P₁') →
      SetQ ns vals₁ x u (fun vals₀ => SetQ ns vals₀ y v (fun vals' => ∀ s', St w c (asg ns vals') (own₁ ++ W) P₁' s' → wpAny (model PySem.Challenge.rw_pq1024_01.row.prog w) c.A (execs body (envX cn (fnSc ns mo) c.L a₀ ccd cl)) (fun f s₃ => match f with
        | .ret v => Q (.ret v) s₃
        | .brk => Q .next s₃
        | _ => ∃ vals₂ own₂ P₂, St w c (asg ns vals₂) (own₂ ++ W) P₂ s₃ ∧ (∀ p ∈ P₁', p ∈ P₂) ∧ J (i + 1) vals₂ own₂ P₂) E s')))
    (fin : ∀ vals' own' P' s', St w c (asg ns vals') own' P' s' → J (min xs.length ys.length) vals' own' P' → Q .next s') :
    wpAny (model PySem.Challenge.rw_pq1024_01.row.prog w) c.A (call (.type "zip") [.ref l1, .ref l2]) (fun xv s₁ => wpAny (model PySem.Challenge.rw_pq1024_01.row.prog w) c.A (pyIter xv) (fun it s₂ => TurnsAt PySem.Challenge.rw_pq1024_01.row.prog w c.A c.g (envX cn (fnSc ns mo) c.L a₀ ccd cl) (.Tuple [.Name x px, .Name y py] kk tp) body Q E it s₂) E s₁) E s := by
  refine src_zipL (elts := [.Name x px, .Name y py]) (kk := kk) (pos := tp) S hl1 hl2 fun I s2 S2 hI => ?_
  refine for_St (P := P) (own := own) (m := asg ns vals) rfl S2 hI (fun i m own₁ P₁ => ∃ vals₁, m = asg ns vals₁ ∧ J i vals₁ own₁ P₁) ⟨vals, rfl, h0⟩ ?_ ?_
  · rintro i v m₁ own₁ P₁ P₁' W s₁ hi hp ⟨vals₁, rfl, hJ⟩ S hs
    obtain ⟨T, u, v, rfl, hu, hv, hT⟩ := hp
    have hst := step i u v vals₁ own₁ P₁ P₁' W s₁ hi hu hv hJ S hs
    refine asgF_pair S g hT ?_
    obtain ⟨v1, l1, v2, l2, hst⟩ := hst
    refine ⟨v1, l1, v2, l2, fun s' S' => ?_⟩
    have h := hst s' S'
    refine wpAny_mono h (fun f s₃ h₃ => ?_) fun _ _ e => e
    cases f with
    | ret v => exact h₃
    | brk => exact h₃
    | next => obtain ⟨v2, o2, P2, S3, hs3, hJ3⟩ := h₃; exact ⟨_, o2, P2, S3, hs3, v2, rfl, hJ3⟩
    | cont => obtain ⟨v2, o2, P2, S3, hs3, hJ3⟩ := h₃; exact ⟨_, o2, P2, S3, hs3, v2, rfl, hJ3⟩
  · rintro m' own' P' s' S ⟨v', rfl, hJ⟩
    exact fin v' own' P' s' S hJ
end
theorem bt_range : bootBuiltins (Str.ofString "range") = some (.type "range") := by boot_by_name
theorem bt_ne_range : (Str.ofString "range") ≠ "__name__" := by decide
end Mine
end
section
namespace Mine
local macro_rules | `(tactic| k_mem) => `(tactic| with_reducible first | exact List.mem_cons_self | assumption | (refine List.mem_cons_of_mem _ ?_; k_mem))
local macro_rules | `(tactic| k_places) => `(tactic| with_reducible first | exact fun _ h => h | assumption | (intro p hp; k_mem))
local macro_rules | `(tactic| kat_tups) => `(tactic| with_reducible first | exact List.mem_cons_self | (refine List.mem_cons_of_mem _ ?_; kat_tups))
local macro_rules | `(tactic| keq_rows) => `(tactic| with_reducible first | refine LocQ.here ?_ | (refine LocQ.there ?_; keq_rows))
local macro_rules | `(tactic| keq_hits) => `(tactic| with_reducible first | refine SetQ.here ?_ | refine SetQ.hereN ?_ | (refine SetQ.there ?_; keq_hits) | (refine SetQ.thereN ?_; keq_hits))
local macro_rules | `(tactic| fold_lay) => `(tactic| (refine enter (K := hd.heap_39 _) rfl (by assumption) (by k_is) (by k_is) (by omega) (by exact BindsTo.of_eq rfl) (by exact rfl) (by kernel_rfl) ?_ (by assumption)))
local macro_rules | `(tactic| k_allIn) => `(tactic| with_reducible first | exact sl0 | exact sl1 | exact sl2 | exact sl3 | exact sl4)
local macro_rules | `(tactic| k_ownIn) => `(tactic| with_reducible first | exact tl0 | exact tl1 | exact tl2 | exact tl3 | exact Nat.le_trans (Nat.le_of_eq (IntsAre.length (by assumption))) (by assumption))
local macro_rules | `(tactic| k_subL) => `(tactic| with_reducible first | exact g_CONST _ | exact g_LOCAL _ | exact g_GLOBAL _ | exact g_SET_LOCAL _ | exact g_SET_GLOBAL _ | exact g_LAMBDA _ | exact g_FIX _ | exact g_PRIM _ | exact g_UNASSIGNED _ | exact g_Pair _ | exact g_CALL _ | exact g_SEQ _ | exact g_DEFINE _ | exact g_TOP _)
local macro_rules | `(tactic| k_clsL) => `(tactic| with_reducible first
  | ((show wpAny _ _ (eval _ _) _ _ _); first
    | refine Attribute_any_ ?_ (by k_dflt rfl)
    | (refine ev_loc (by assumption) (by assumption) ?_; keq_rows)
    | refine ev_cell (by assumption) (by assumption) (by k_dflt rfl) (by k_mem) (by assumption) (by kat_tups) ?_
    | refine ev_glob (by assumption) (by assumption) (by k_subL) (by kat_tups) ?_
    | (refine ev_int (by assumption) ?_; intro s' tk' S')
    | (refine ev_str (by assumption) ?_; intro s' tk' S')
    | refine List_ ?_
    | refine call2 (x := Str.ofString "_law_draw") (by assumption) (by assumption) (g_law_draw _) (kp_law_draw _) (by kat_tups) ?_ (by k_dflt rfl) (by k_dflt rfl)
    | refine call2 (x := Str.ofString "_law_one") (by assumption) (by assumption) (g_law_one _) (kp_law_one _) (by kat_tups) ?_ (by k_dflt rfl) (by k_dflt rfl)
    | refine call2 (x := Str.ofString "_law_new") (by assumption) (by assumption) (g_law_new _) (kp_law_new _) (by kat_tups) ?_ (by k_dflt rfl) (by k_dflt rfl)
    | refine callB1 (x := Str.ofString "len") (by assumption) (by assumption) (gn_len _) bt_len bt_ne_len (by kat_tups) ?_ (by k_dflt rfl)
    | refine call1 (x := Str.ofString "Local") (by assumption) (by assumption) (g_Local _) (kp_Local _) (by kat_tups) ?_ (by k_dflt rfl)
    | refine call1 (x := Str.ofString "Const") (by assumption) (by assumption) (g_Const _) (kp_Const _) (by kat_tups) ?_ (by k_dflt rfl)
    | refine call1 (x := Str.ofString "Global") (by assumption) (by assumption) (g_Global _) (kp_Global _) (by kat_tups) ?_ (by k_dflt rfl)
    | refine call1 (x := Str.ofString "Seq") (by assumption) (by assumption) (g_Seq _) (kp_Seq _) (by kat_tups) ?_ (by k_dflt rfl)
    | refine call2 (x := Str.ofString "Call") (by assumption) (by assumption) (g_Call _) (kp_Call _) (by kat_tups) ?_ (by k_dflt rfl) (by k_dflt rfl)
    | refine call2 (x := Str.ofString "SetLocal") (by assumption) (by assumption) (g_SetLocal _) (kp_SetLocal _) (by kat_tups) ?_ (by k_dflt rfl) (by k_dflt rfl)
    | refine call4 (x := Str.ofString "Lambda") (by assumption) (by assumption) (g_Lambda _) (kp_Lambda _) (by kat_tups) ?_ (by k_dflt rfl) (by k_dflt rfl) (by k_dflt rfl) (by k_dflt rfl)
    | refine call4 (x := Str.ofString "_law_value_of") (by assumption) (by assumption) (g_law_value_of _) (kp_law_value_of _) (by kat_tups) ?_ (by k_dflt rfl) (by k_dflt rfl) (by k_dflt rfl) (by k_dflt rfl)
    | refine call4 (x := Str.ofString "_law_late") (by assumption) (by assumption) (g_law_late _) (kp_law_late _) (by kat_tups) ?_ (by k_dflt rfl) (by k_dflt rfl) (by k_dflt rfl) (by k_dflt rfl)
    | refine UnaryOp_ ?_
    | refine Subscript_ ?_
    | refine MethodCall_ ?_ (by k_dflt rfl)
    | refine Tuple_ ?_
    | refine callT (x := Str.ofString "tuple") (by assumption) (by assumption) (gn_tuple _) bt_tuple bt_ne_tuple (by kat_tups) ?_ (by k_dflt rfl)
    | refine wpAny_BinOp ?_
    | refine IfExp_ ?_
    | refine callB2 (x := Str.ofString "isinstance") (by assumption) (by assumption) (gn_isinstance _) bt_isinstance ne_isinstance (by kat_tups) ?_ (by k_dflt rfl) (by k_dflt rfl)
    | refine callB1 (x := Str.ofString "repr") (by assumption) (by assumption) (gn_repr _) bt_repr ne_repr (by kat_tups) ?_ (by k_dflt rfl)
    | refine ev_bi (x := Str.ofString "int") (by assumption) (by assumption) (gn_int _) bt_int ne_int (by kat_tups) ?_
    | refine ev_bi (x := Str.ofString "bool") (by assumption) (by assumption) (gn_bool _) bt_bool ne_bool (by kat_tups) ?_)
  | ((show wpAny _ _ (exec _ _) _ _ _); first
    | refine wpAny_If ?_
    | refine wpAny_Assign_Name ?_ (by k_dflt rfl)
    | refine wpAny_Return_some ?_
    | refine wpAny_Assign_Subscript ?_ (by k_dflt rfl)
    | refine wpAny_Expr_any ?_ (by k_dflt rfl) (by k_dflt rfl)
    | refine plainObj_wpAny_Assign_Attribute ?_ (by k_dflt rfl))
  | ((show wpAny _ _ (compareOp _ _ _) _ _ _); first
    | refine eq_int_ff (by k_dflt rfl) ?_
    | refine eq_int_tt (by k_dflt rfl) ?_
    | refine in_tup_ff (by assumption) (by k_mem) (.cons _ _ (.cons _ _ .nil)) (by k_dflt rfl) ?_
    | refine in_tup_tt (by assumption) (by k_mem) (.cons _ _ (.cons _ _ .nil)) (by k_dflt rfl) ?_
    | refine wpAny_is_ref_self ?_
    | refine PySem.P.lt_int ?_
    | refine PySem.P.gt_int ?_
    | refine eq_int ?_)
  | ((show wpAny _ _ (getAttr _ _ _) _ _ _); first
    | (refine at_kind (by assumption) (by assumption) (by k_places) (by assumption) ?_; intro s' tk' S')
    | (refine at_setl_number (by assumption) (by assumption) (by k_places) ?_; intro s' tk' S')
    | (refine at_cint (by assumption) (by assumption) (by k_places) ?_; intro s' tk' S')
    | (refine at_cun (by assumption) (by assumption) (by k_places) ?_; intro s' S')
    | (refine at_loc (by assumption) (by assumption) (by k_places) ?_; intro s' tk' S')
    | (refine at_glob (by assumption) (by assumption) (by k_places) ?_; intro s' tk' S')
    | (refine at_lam_label (by assumption) (by assumption) (by k_places) ?_; intro s' tk' S')
    | (refine at_lam_rest (by assumption) (by assumption) (by k_places) ?_; intro s' tk' S')
    | (refine at_lam_params (by assumption) (by assumption) (by k_places) ?_; intro s' pl' vs' e' S' hp' hi')
    | (refine at_fix_numbers (by assumption) (by assumption) (by k_places) ?_; intro s' pl' vs' e' S' hp' hi'))
  | ((show wpAny _ _ (getMethod _ _ _) _ _ _); first
    | refine lmeth (by assumption) (by k_mem) PySem.F.slot_list_pop PySem.F.type_list_pop ?_
    | refine lmeth (by assumption) (by k_mem) PySem.F.slot_list_append PySem.F.type_list_append ?_
    | refine lmeth (by assumption) (by k_mem) PySem.F.slot_list_insert PySem.F.type_list_insert ?_)
  | ((show wpAny _ _ (callWith _ _ _ _ _) _ _ _); first
    | refine callWith_method1 ?_ (by k_dflt rfl) (by k_dflt rfl)
    | refine callWith_method0 ?_)
  | ((show wpAny _ _ (call _ _) _ _ _); first
    | (refine tuple_of (by assumption) (by k_mem) (by k_ownIn) ?_; intro D' s' S')
    | (refine isi_int (by assumption) (by k_mem) ?_; intro s' S')
    | (refine isi_un (by assumption) (by k_mem) ?_; intro s' S')
    | (refine isi_pair (by assumption) ?_; intro s' S')
    | (refine rp_int (by assumption) ?_; intro s' tk' S'))
  | ((show wpAny _ _ (PySem.isTrue _ _ _) _ _ _); first
    | refine wpAny_isTrue_Compare1 ?_ (by k_dflt rfl)
    | refine isTrue_and ?_
    | refine isTrue_and_nil ?_
    | refine isTrue_or ?_
    | refine isTrue_or_nil ?_
    | refine isTrue_plain ?_ (by k_dflt rfl))
  | ((show wpAny _ _ (binaryOp _ _ _) _ _ _); first
    | (refine addS (by assumption) ?_; intro s' tk' S')
    | (refine subS (by assumption) ?_; intro s' tk' S'))
  | ((show wpAny _ _ (unaryOp _ _) _ _ _); refine negS (by assumption) ?_; intro s' tk' S')
  | ((show wpAny _ _ (subscriptTail _ _ _ _) _ _ _); first
    | refine own0 (by assumption) (by decide) (by decide) (by k_dflt rfl) ?_ (by k_dflt rfl))
  | ((show wpAny _ _ (PySem.setItem _ _ _) _ _ _); first
    | (refine set0 (by assumption) ?_; intro s' S')
    | (refine set1 (by assumption) ?_; intro s' S'))
  | ((show _ ∧ wpAny _ _ _ _ _ _); refine And.intro (St.kin (by assumption)) ?_)
  | refine wpAny_execs_cons ?_
  | refine sp1 ?_ (by k_dflt rfl)
  | refine sp0 ?_
  | refine wpAny_truthy_bool ?_
  | refine ite_ff ?_
  | refine ite_tt ?_
  | (refine st_loc (by assumption) (by assumption) ?_; keq_hits; intro s' S')
  | (refine nl (by assumption) ?_ (by k_allIn); intro l' s' S')
  | (refine nt (by assumption) ?_ (by k_allIn); intro l' s' S')
  | refine wpAny_execs_nil ?_
  )
local macro_rules | `(tactic| k_offL) => `(tactic| repeat k_clsL)

theorem late_x {w : World} (d k sz dp : Nat) (hk6 : 6 ≤ k) (hdp4 : 4 ≤ dp) (V : Maker w 550 d k sz dp 60) : Maker w 555 d (k + 1) (22 + 5 * sz) (dp + 4) 56 := by
  intro c m own P s Q E D X a b kn vs ek known u B hkn hi0 hv hv2 hdp hu ret
  obtain ⟨xs, n, e, t1, t2, S, hD⟩ := B
  have Xf := S.X
  refine wpAny_call ?_
  refine enterK (K := hd.heap_39 _) (vals := [none, none, some (.ref kn), some (.int (d : Int) u)]) (clf := fun L' => [(Str.ofString "_law_state", L' + 1 + 1), (Str.ofString "_law_deck", L' + 1)]) (Out := fun cs P' r => ∃ xs' n' e' u1 u2 a' b' t, cs = (D, listOf (xs' : List Value).toArray n') :: (X, listOf [.int a' u1, .int b' u2].toArray e') :: own ∧ Dk xs' ∧ TR w P' r t ∧ Bl known a b a' b' t ∧ t.size ≤ 22 + 5 * sz ∧ t.dep ≤ dp + 4) rfl S (by k_is) (by k_is) (by omega) (by exact BindsTo.of_eq rfl) (by kernel_rfl) (by decide +kernel) (by kernel_rfl) (by exact fun _ => rfl) ?a4 ?a5 ?a6
  case a4 =>
    intro L'
    dsimp only [List.map, List.zip, List.zipWith]
    rw [bindL_cell (by kernel_rfl), bindL_cell (by kernel_rfl), bindL_loc (by kernel_rfl), bindL_loc (by kernel_rfl), bindL_nil]
    exact asg_cc (by kernel_rfl)
  case a6 =>
    intro r own' P' s' S' hc hs ho
    obtain ⟨xs', n', e', u1, u2, a', b', t, rfl, hD', hT, hB, h1, h2⟩ := ho
    exact ret _ _ _ _ _ _ ⟨_, _, _, _, _, S', hD'⟩ hs hT hB h1 h2
  intro c' s' cc gN hd' hu' hcc S'
  obtain ⟨o1, o2, rfl, hc1, hc2⟩ := hcc.two
  have hX : o1.data = .cell (some (.ref X)) := hc1.trans (by exact rfl)
  have hDk : o2.data = .cell (some (.ref D)) := hc2.trans (by exact rfl)
  clear hc1 hc2 hcc ret S
  dsimp only [List.cons_append, List.nil_append] at S'
  have d1 : c'.A.depth + 1 < recursionLimit := by omega
  have d2 : c'.A.depth + 2 < recursionLimit := by omega
  have d3 : c'.A.depth + 3 < recursionLimit := by omega
  have u8 : c'.A.units + 80 < cLine := by omega
  have u9 : c'.A.units + 90 < cLine := by omega
  have u3 : c'.A.units + 8 * 3 < cLine := by omega
  have e1 : c'.A.depth + k < recursionLimit := by omega
  have e2 : c'.A.units + 8 * k + 200 < cLine := by omega
  clear hdp hu hd' hu'
  refine wpAny_execs_cons ?_
  refine comp_assignS (by assumption) gN (by k_dflt rfl) (by decide) (by k_dflt rfl) (by decide) (by k_dflt rfl) (by decide) (by k_dflt exact fun _ => rfl) ?_
  refine callT (x := Str.ofString "range") (by assumption) (by assumption) (gn_range _) bt_range bt_ne_range (by kat_tups) ?_ (by k_dflt rfl)
  k_offL
  refine drawB (by assumption) hD (by decide) (by decide) d2 u8 ?_
  intro many tkm s1 B hm0 hm4
  obtain ⟨xs, n, e, t1, t2, S, hD⟩ := B
  k_offL
  obtain ⟨kk, rfl⟩ : ∃ kk : Nat, many = (kk : Int) := ⟨many.toNat, by omega⟩
  refine compR (k := kk + 1) (by assumption) (by omega) (by omega) rfl (by kernel_rfl) (fun i own₁ P₁ ys => (∃ e' t1' t2', own₁ = (D, listOf xs.toArray n) :: (X, listOf [.int (a + (i : Int)) t1', .int b t2'].toArray e') :: own) ∧ (∀ p ∈ ((c'.L + 1 + 1, o1) :: (c'.L + 1, o2) :: P), p ∈ P₁) ∧ IntsAre ys (nf a i)) ⟨⟨_, _, _, by rw [show ((0 : Nat) : Int) = 0 from rfl, Int.add_zero]⟩, fun _ h => h, .nil⟩ ?_ ?_
  · rintro i own₁ P₁ P₁' tl C oC m₂ ys s₂ E' hi ⟨⟨e', t1', t2', rfl⟩, hs0, hys⟩ hG hC htl S hs
    show wpAny _ _ _ _ _ _
    refine ccall2 (x := Str.ofString "_law_new") S (g_law_new _) (kp_law_new _) ?_ rfl rfl (by kernel_rfl) (by k_dflt rfl) (by k_dflt rfl)
    refine cv_cell S (by k_dflt rfl) (hs _ (hs0 _ (.head _))) hX ?_ rfl (by kernel_rfl)
    refine ev_int S ?_
    intro s3 tk3 S3
    refine ⟨S3.kin, ?_⟩
    refine new0 (own := _ :: (own ++ tl)) S3.swap d1 u8 ?_
    intro tk tk' n' s' S'
    refine ⟨_ :: _ :: own, _, S'.swap, fun _ h => h, ⟨_, _, _, by rw [show ((i + 1 : Nat) : Int) = (i : Int) + 1 from rfl, Int.add_assoc]⟩, fun p hp => hs _ (hs0 _ hp), ?_⟩
    exact hys.append (.cons _ _ .nil)
  rintro own' P1 ns Ln ⟨⟨e', t1', t2', rfl⟩, hP1, hns⟩
  keq_hits
  intro s3 S3
  dsimp only
  have hc2 := hP1 _ (.head _)
  have hc1 := hP1 _ (.tail _ (.head _))
  have hkn1 := hP1 _ (.tail _ (.tail _ hkn))
  have hnl : ns.length = kk + 1 := by rw [hns.length, nf_len]
  refine wpAny_execs_cons ?_
  refine comp_assignS (by assumption) gN (by k_dflt rfl) (by decide) (by k_dflt rfl) (by decide) (by k_dflt rfl) (by decide) (by k_dflt exact fun _ => rfl) ?_
  k_offL
  refine compL (vs := ns) (e := ns.length) (by assumption) (.head _) (by omega) rfl (by kernel_rfl) (fun i own₁ P₁ ys => (∃ xs n, own₁ = (D, listOf (xs : List Value).toArray n) :: (X, listOf [.int (a + ((kk + 1 : Nat) : Int)) t1', .int b t2'].toArray e') :: own ∧ Dk xs) ∧ (∀ p ∈ ((Ln, LCg.lst ns) :: P1), p ∈ P₁) ∧ ∃ ts, All2 (TR w P₁) ys ts ∧ ts.length = i ∧ ∀ t ∈ ts, t = T.cun ∨ t = T.cint 3) ⟨⟨_, _, rfl, hD⟩, fun _ h => h, [], .nil, rfl, fun _ h => nomatch h⟩ ?_ ?_
  · rintro i own₁ P₁ P₁' tl C oC m₂ ys s₂ E' hi ⟨⟨xs, n, rfl, hD⟩, hs0, ts, hys, hti, hts⟩ hG hC htl S hs
    show wpAny _ _ _ _ _ _
    refine IfExp_ ?_
    refine wpAny_isTrue_Compare1 ?_ (by k_dflt rfl)
    refine ccall2 (x := Str.ofString "_law_draw") S (g_law_draw _) (kp_law_draw _) ?_ rfl rfl (by kernel_rfl) (by k_dflt rfl) (by k_dflt rfl)
    refine cv_cell S (by k_dflt rfl) (hs _ (hs0 _ (.tail _ hc1))) hDk ?_ rfl (by kernel_rfl)
    refine ev_int S ?_
    intro s3 tk3 S3
    refine ⟨S3.kin, ?_⟩
    refine draw (own := _ :: (own ++ tl)) S3 hD (by decide) (by decide) d2 u8 ?_
    intro r tkr xs' n' s4 S4 hD' hr0 hr5
    k_offL
    refine ifB (fun hb => ?_) (fun hb => ?_)
    · refine ccall1 (x := Str.ofString "Const") (by assumption) (g_Const _) (kp_Const _) ?_ rfl rfl (by kernel_rfl) (by decide) (by k_dflt rfl)
      refine cv_glob (by assumption) (g_UNASSIGNED _) ?_ rfl rfl (by kernel_rfl) (by decide)
      refine ⟨St.kin (by assumption), ?_⟩
      refine useP mk_cun (by assumption) d3 u3 ?_
      intro v P2 s5 S5 hs5 hT
      refine ⟨_ :: _ :: own, P2, S5, hs5, ⟨_, _, rfl, hD'⟩, fun p hp => hs5 _ (hs _ (hs0 _ hp)), ts ++ [.cun], (show All2 (TR w P2) (ys ++ [v]) _ from (hys.mono fun v t h => TR.mono _ _ _ _ (fun p hp => hs5 _ (hs _ hp)) h).snoc hT), by rw [List.length_append, hti]; rfl, fun t ht => ?_⟩
      rcases List.mem_append.mp ht with ht | ht
      · exact hts t ht
      · exact .inl (List.mem_singleton.mp ht)
    · refine ccall1 (x := Str.ofString "Const") (by assumption) (g_Const _) (kp_Const _) ?_ rfl rfl (by kernel_rfl) (by decide) (by k_dflt rfl)
      k_offL
      refine useP (mk_cint (i := 3)) (by assumption) d3 u3 ?_
      intro v P2 s5 S5 hs5 hT
      refine ⟨_ :: _ :: own, P2, S5, hs5, ⟨_, _, rfl, hD'⟩, fun p hp => hs5 _ (hs _ (hs0 _ hp)), ts ++ [.cint 3], (show All2 (TR w P2) (ys ++ [v]) _ from (hys.mono fun v t h => TR.mono _ _ _ _ (fun p hp => hs5 _ (hs _ hp)) h).snoc hT), by rw [List.length_append, hti]; rfl, fun t ht => ?_⟩
      rcases List.mem_append.mp ht with ht | ht
      · exact hts t ht
      · exact .inr (List.mem_singleton.mp ht)
  rintro own' P2 bs Lb ⟨⟨xs2, n2, rfl, hD2⟩, hP2, bt, hbt, hbl, hbc⟩
  keq_hits
  intro s4 S4
  clear S S3 S'
  dsimp only
  have hc2 := hP2 _ (.tail _ hc2)
  have hc1 := hP2 _ (.tail _ hc1)
  have hkn2 := hP2 _ (.tail _ hkn1)
  have hnum := hP2 _ (.head _)
  refine wpAny_execs_cons ?_
  refine Assign_Tuple_swapped ?_ (by k_dflt rfl) (by k_dflt rfl)
  refine Tuple_ ?_
  refine sp1 ?_ (by k_dflt rfl)
  refine List_ ?_
  refine sp0 ?_
  refine nl_own S4 ?_ (by k_allIn)
  intro Lr s5 S5
  have S6 := S5.perm (own' := _ :: _ :: _ :: own) ((List.Perm.swap _ _ _).trans (.cons _ (List.Perm.swap _ _ _)))
  k_offL
  refine new1B (by assumption) hD2 d1 u8 ?_
  rintro tkl s7 ⟨xs3, n3, e3, t5, t6, S7, hD3⟩
  clear S5 S6
  k_offL
  refine unp2 (by assumption) (by k_mem) ?_
  intro s8 S8
  refine assignInOrder_cons (wpAny_bindName ?_)
  k_offL
  refine assignInOrder_cons (wpAny_bindName ?_)
  k_offL
  refine assignInOrder_nil ?_
  dsimp only
  refine wpAny_execs_cons ?_
  refine For_ (by assumption) ?_ (by k_dflt exact fun _ => rfl)
  refine callT (x := Str.ofString "range") (by assumption) (by assumption) (gn_range _) bt_range bt_ne_range (by kat_tups) ?_ (by k_dflt rfl)
  k_offL
  refine len_P (xs := ns) (by assumption) (by k_mem) (by omega) ?_
  intro s9 tk9 S9
  k_offL
  refine drawB (by assumption) hD3 (by decide) (by decide) d2 u8 ?_
  rintro r tkr s10 ⟨xs4, n4, e4, t7, t8, S10, hD4⟩ hr0 hr2
  k_offL
  obtain ⟨rr, rfl⟩ : ∃ rr : Nat, r = (rr : Int) := ⟨r.toNat, by omega⟩
  refine forR (k := kk + 1 + rr) (by assumption) gN (by omega) (by omega) (fun i vals₁ own₁ P₁ => ∃ xs n e u1 u2 vo rs ts a' b' v1 v2, vals₁ = [none, none, some (.ref kn), some (.int (d : Int) u), v1, some (.ref Ln), v2, some (.ref Lb), some (.ref Lr), some (.int (b + 1) tkl)] ∧
    own₁ = (D, listOf (xs : List Value).toArray n) :: (X, listOf [Value.int a' u1, Value.int b' u2].toArray e) :: (Lr, listOf (rs : List Value).toArray vo) :: own ∧ Dk xs ∧ (∀ p ∈ (Lb, LCg.lst bs) :: P2, p ∈ P₁) ∧ All2 (TR w P₁) rs ts ∧ Bls (known ++ nf a (kk + 1)) (a + ((kk + 1 : Nat) : Int)) (b + 1) a' b' ts ∧ ts.length = i ∧ sizes ts ≤ i * (sz + 1) ∧ deps ts ≤ dp + 1)
    ⟨_, _, _, _, _, _, [], [], _, _, _, _, rfl, rfl, hD4, by k_places, .nil, Bls.nil, rfl, by simp [sizes], by simp [deps]⟩ ?_ ?_
  · rintro i tki vals₁ own₁ P₁ P₁' W s₁ hi ⟨xs, n, e, u1, u2, vo, rs, ts, a', b', v1, v2, rfl, rfl, hD, hP3, hrs, hB, hti, hsz, hdep⟩ S hs
    clear S4 S7 S8 S9 S10
    keq_hits
    intro s2 S2
    have hc1 := hs _ (hP3 _ (.tail _ hc1))
    have hc2 := hs _ (hP3 _ (.tail _ hc2))
    have hkn3 := hs _ (hP3 _ (.tail _ hkn2))
    have hnum := hs _ (hP3 _ (.tail _ hnum))
    clear S
    refine wpAny_execs_cons ?_
    refine wpAny_Assign_Name ?_ (by k_dflt rfl)
    refine cutE (by assumption) (fun m' v s' => BS w c' m' D X ((Lr, listOf rs.toArray vo) :: (own ++ W)) P₁' a' b' s' ∧ ∃ num tk, v = .int num tk ∧ num ∈ nf a (kk + 1)) ?_ ?_
    · have fin1 : ∀ m' (s' : Shared) (xs : List Value) n e u1 u2, St w c' m' ((D, listOf xs.toArray n) :: (X, listOf [Value.int a' u1, Value.int b' u2].toArray e) :: (Lr, listOf rs.toArray vo) :: (own ++ W)) P₁' s' → Dk xs →
          wpAny (model PySem.Challenge.rw_pq1024_01.row.prog w) c'.A (call (.ref 531) [.ref D, .ref Ln]) (fun v s' => BS w c' m' D X ((Lr, listOf rs.toArray vo) :: (own ++ W)) P₁' a' b' s' ∧ ∃ num tk, v = .int num tk ∧ num ∈ nf a (kk + 1)) (fun _ _ => False) s' := by
        intro m' s' xs n e u1 u2 S hD
        refine oneB S hD hnum hns (by omega) (by omega) d3 u9 ?_
        intro r tk s1 B hr
        exact ⟨B, r, tk, rfl, hr⟩
      k_offL
      refine len_P (xs := ns) (by assumption) hnum (by omega) ?_
      intro s9 tk9 S9
      k_offL
      refine ifB (fun hb => ?_) (fun hb => ?_)
      · k_offL
        refine drawB (by assumption) hD (by decide) (by decide) d2 u8 ?_
        rintro r6 tkr6 s11 ⟨xs5, n5, e5, t9, t10, S11, hD5⟩ h60 h66
        k_offL
        refine ifB (fun hb6 => ?_) (fun hb6 => ?_)
        · k_offL
          have hin : i < ns.length := by have := of_decide_eq_true hb; omega
          obtain ⟨v, hv⟩ : ∃ v, ns[i]? = some v := ⟨ns[i], by simp [hin]⟩
          obtain ⟨num, tkn, rfl, hnum'⟩ := hns.at _ _ hv
          refine li_item (St.isListP (by assumption) hnum) (by omega) (by omega) (by simpa using hv) ?_ (by k_dflt rfl)
          exact ⟨⟨_, _, _, _, _, by assumption, hD5⟩, num, tkn, rfl, List.mem_of_getElem? hnum'⟩
        · k_offL
          exact fin1 _ _ _ _ _ _ _ (by assumption) hD5
      · k_offL
        exact fin1 _ _ _ _ _ _ _ (by assumption) hD
    rintro v s9 ⟨⟨xs5, n5, e5, t9, t10, S11, hD5⟩, num, tkn, rfl, hnm⟩
    k_offL
    refine add_l (xs := vs) (ys := ns) (by assumption) (St.isListP (by assumption) hkn3) (St.isListP (by assumption) hnum) (fits_le (by omega)) ?_
    intro Dn s12 S12
    k_offL
    refine V _ _ _ _ _ _ _ D X a' b' Dn (vs ++ ns) 0 (known ++ nf a (kk + 1)) _ ⟨_, _, _, _, _, by assumption, hD5⟩ (.head _) (hi0.append hns) (by simp; omega) (by simp; omega) e1 e2 ?_
    rintro r P4 s13 a2 b2 t ⟨xs6, n6, e6, t11, t12, S13, hD6⟩ hs4 hT hBt hts htd
    k_offL
    refine useP (mk_setl hT) (by assumption) d3 u3 ?_
    intro v5 P5 s14 S14 hs5 hT5
    k_offL
    have S15 := S14.perm (own' := _ :: _ :: _ :: (own ++ W)) ((List.Perm.cons _ (List.Perm.swap _ _ _)).trans (List.Perm.swap _ _ _))
    refine app S15 (fits_le (by rw [hrs.length, hti]; omega)) ?_
    intro s16 S16
    have S17 := S16.perm (own' := _ :: _ :: _ :: (own ++ W)) ((List.Perm.swap _ _ _).trans (List.Perm.cons _ (List.Perm.swap _ _ _)))
    k_offL
    refine ⟨_, _ :: _ :: _ :: own, P5, S17, fun p hp => hs5 _ (hs4 _ (.tail _ hp)), _, _, _, _, _, _, _, ts ++ [.setl num t], a2, b2, _, _, rfl, rfl, hD6, fun p hp => hs5 _ (hs4 _ (.tail _ (hs _ (hP3 p hp)))),
      (hrs.mono fun v t h => TR.mono _ _ _ _ (fun p hp => hs5 _ (hs4 _ (.tail _ (hs _ hp)))) h).snoc hT5, hB.append (Bl.one (Bl.setl hBt (List.mem_append_right _ hnm))), by rw [List.length_append, hti]; rfl, ?_, ?_⟩
    · rw [sizes_append]; simp only [sizes, T.size]; rw [Nat.add_mul]; omega
    · rw [deps_append]; simp only [deps, T.dep]; omega
  rintro vals' own' P3 s3 S3 ⟨xs3, n3, e3, u1, u2, vo, rs, ts, a', b', v1, v2, rfl, rfl, hD3, hP3, hrs, hB, hti, hsz, hdep⟩
  clear S4 S7 S8 S9 S10
  have hc1 := hP3 _ (.tail _ hc1)
  have hc2 := hP3 _ (.tail _ hc2)
  have hnum := hP3 _ (.tail _ hnum)
  have hbeg := hP3 _ (.head _)
  obtain ⟨vz, hvz⟩ : ∃ v, ns[0]? = some v := ⟨ns[0], by simp [hnl]⟩
  obtain ⟨n0, tk0, rfl, hn0'⟩ := hns.at _ _ hvz
  have hn0 : n0 ∈ nf a (kk + 1) := List.mem_of_getElem? hn0'
  have hsz : sizes ts ≤ 5 * (sz + 1) := Nat.le_trans hsz (Nat.mul_le_mul_right _ (by omega))
  refine wpAny_execs_cons ?_
  refine cutF S3 (fun m' f s' => f = .next ∧ ∃ xs n e u1 u2 vo rs ts P4, St w c' m' ((D, listOf (xs : List Value).toArray n) :: (X, listOf [Value.int a' u1, Value.int b' u2].toArray e) :: (Lr, listOf (rs : List Value).toArray vo) :: own) P4 s' ∧ Dk xs ∧ (∀ p ∈ P3, p ∈ P4) ∧
    All2 (TR w P4) rs ts ∧ Bls (known ++ nf a (kk + 1)) (a + ((kk + 1 : Nat) : Int)) (b + 1) a' b' ts ∧ ts.length ≤ 6 ∧ sizes ts ≤ 5 * (sz + 1) + 3 ∧ deps ts ≤ dp + 1) ?_ ?_
  · k_offL
    refine drawB (by assumption) hD3 (by decide) (by decide) d2 u8 ?_
    rintro r6 tkr6 s11 ⟨xs5, n5, e5, t9, t10, S11, hD5⟩ h60 h66
    k_offL
    refine ifB (fun hb => ?_) (fun hb => ?_)
    · k_offL
      refine len_O (xs := rs) (by assumption) (by k_mem) (by rw [hrs.length, hti]; omega) ?_
      intro s9 tk9 S9
      k_offL
      refine drawB (by assumption) hD5 (by rw [hrs.length, hti]; omega) (by rw [hrs.length, hti]; omega) d2 u8 ?_
      rintro at0 tkat s12 ⟨xs6, n6, e6, t11, t12, S12, hD6⟩ ha0 ha1
      k_offL
      refine useP mk_glob (by assumption) d3 u3 ?_
      intro w1 P4 s13 S13 hs4 hT1
      have hnum4 := hs4 _ hnum
      k_offL
      refine li_item (St.isListP (by assumption) hnum4) (by decide) (by decide) hvz ?_ (by k_dflt rfl)
      k_offL
      refine useP mk_loc (by assumption) d3 u3 ?_
      intro w2 P5 s14 S14 hs5 hT2
      k_offL
      refine useP (mk_call (ts := [_]) (TR.mono _ _ _ _ (fun p hp => .tail _ (hs5 _ hp)) hT1) (.head _) (Nds.of (.cons (TR.mono _ _ _ _ (fun p hp => .tail _ hp) hT2) .nil))) (by assumption) d3 u3 ?_
      intro w3 P6 s15 S15 hs6 hT3
      k_offL
      have S16 := St.perm (own' := _ :: _ :: _ :: own) (by assumption) ((List.Perm.cons _ (List.Perm.swap _ _ _)).trans (List.Perm.swap _ _ _))
      refine insS S16 ha0 (by have := hrs.length; omega) (by rw [hrs.length, hti]; omega) ?_
      intro s17 j S17
      have S18 := S17.perm (own' := _ :: _ :: _ :: own) ((List.Perm.swap _ _ _).trans (List.Perm.cons _ (List.Perm.swap _ _ _)))
      have hsub : ∀ p ∈ P3, p ∈ P6 := fun p hp => hs6 _ (.tail _ (hs5 _ (hs4 _ hp)))
      have hrs' := hrs.mono fun v t h => TR.mono _ _ _ _ hsub h
      k_offL
      refine ⟨rfl, _, _, _, _, _, _, _, ts.take j ++ .call (.glob 1) [.loc n0] :: ts.drop j, P6, S18, hD6, hsub, (hrs'.take j).append (.cons hT3 (hrs'.drop j)), hB.ins j ⟨trivial, List.mem_append_right _ hn0, trivial⟩ rfl rfl, ?_, ?_, ?_⟩
      · rw [len_ins, hti]; omega
      · rw [sizes_ins]; simp only [T.size, sizes]; omega
      · rw [deps_ins]; simp only [T.dep, deps]; omega
    · k_offL
      exact ⟨rfl, _, _, _, _, _, _, _, ts, _, by assumption, hD5, fun _ h => h, hrs, hB, by omega, by omega, hdep⟩
  rintro f s4 ⟨rfl, xs4, n4, e4, u3', u4', vo4, rs4, ts4, P4, S4, hD4, hs4, hrs4, hB4, htl4, hsz4, hdep4⟩
  clear S3 hrs hB hti hsz hdep
  have hc1 := hs4 _ hc1
  have hc2 := hs4 _ hc2
  have hnum := hs4 _ hnum
  have hbeg := hs4 _ hbeg
  dsimp only
  iterate 7 k_clsL
  refine cutE S4 (fun m' v s' => ∃ P5 t a5 b5, BS w c' m' D X ((Lr, listOf rs4.toArray vo4) :: own) P5 a5 b5 s' ∧ (∀ p ∈ P4, p ∈ P5) ∧ TR w P5 v t ∧ Bl (known ++ nf a (kk + 1)) a' b' a5 b5 t ∧ t.size ≤ 3 ∧ t.dep ≤ 3) ?_ ?_
  · k_offL
    refine drawB (by assumption) hD4 (by decide) (by decide) d2 u8 ?_
    rintro r6 tkr6 s11 ⟨xs5, n5, e5, t9, t10, S11, hD5⟩ h60 h66
    k_offL
    refine ifB (fun hb => ?_) (fun hb => ?_)
    · k_offL
      refine oneB (by assumption) hD5 hnum hns (by omega) (by omega) d3 u9 ?_
      rintro r tk s1 ⟨xs6, n6, e6, t11, t12, S12, hD6⟩ hr
      k_offL
      refine useP mk_loc (by assumption) d3 u3 ?_
      intro w2 P5 s14 S14 hs5 hT2
      exact ⟨P5, _, a', b', ⟨_, _, _, _, _, S14, hD6⟩, hs5, hT2, Bl.loc (List.mem_append_right _ hr), by simp [T.size], by simp [T.dep]⟩
    · k_offL
      refine li_item (St.isListP (by assumption) hnum) (by decide) (by decide) hvz ?_ (by k_dflt rfl)
      k_offL
      refine new1B (by assumption) hD5 d1 u8 ?_
      rintro tk1 s1 ⟨xs6, n6, e6, t11, t12, S12, hD6⟩
      k_offL
      refine useP (mk_cint (i := 1)) (by assumption) d3 u3 ?_
      intro w2 P5 s14 S14 hs5 hT2
      k_offL
      refine useP (mk_lam (ps := []) (hs5 _ (.head _)) .nil hT2) (by assumption) d3 u3 ?_
      intro w3 P6 s15 S15 hs6 hT3
      k_offL
      refine useP (mk_setl hT3) (by assumption) d3 u3 ?_
      intro w4 P7 s16 S16 hs7 hT4
      refine ⟨P7, _, a', b' + 1, ⟨_, _, _, _, _, S16, hD6⟩, fun p hp => hs7 _ (hs6 _ (hs5 _ (.tail _ hp))), hT4, ⟨⟨List.mem_append_right _ hn0, trivial⟩, ?_, ?_, Int.le_refl _, by omega⟩, by simp [T.size], by simp [T.dep]⟩
      · simpa [binds] using In.nil
      · simpa [labs] using In.one (a := b') (b := b' + 1) (i := b' + 1) (by omega) (by omega)
  rintro v s5 ⟨P5, t, a5, b5, ⟨xs6, n6, e6, t11, t12, S12, hD6⟩, hs5, hT, hBt, hts, htd⟩
  clear S4
  k_offL
  have S16 := St.perm (own' := _ :: _ :: _ :: own) (by assumption) ((List.Perm.cons _ (List.Perm.swap _ _ _)).trans (List.Perm.swap _ _ _))
  refine app S16 (fits_le (by rw [hrs4.length]; omega)) ?_
  intro s17 S17
  have S18 := S17.settle
  have hbeg := hs5 _ hbeg
  have hnum := hs5 _ hnum
  have hrs5 : Nds w ((Lr, listOf (rs4 ++ [v]).toArray (vo4 + 1)) :: P5) (rs4 ++ [v]) (ts4 ++ [t]) := Nds.of ((hrs4.mono fun v t h => TR.mono _ _ _ _ (fun p hp => .tail _ (hs5 _ hp)) h).snoc (TR.mono _ _ _ _ (fun p hp => .tail _ hp) hT))
  k_offL
  refine useP (mk_seq (.head _) hrs5) (by assumption) d3 u3 ?_
  intro w4 P6 s18 S19 hs6 hT4
  k_offL
  refine useP (mk_lam (hs6 _ (.tail _ hnum)) hns hT4) (by assumption) d3 u3 ?_
  intro w5 P7 s19 S20 hs7 hT5
  k_offL
  have hbt7 := hbt.mono fun v t h => TR.mono _ _ _ _ (fun p hp => hs7 _ (hs6 _ (.tail _ (hs5 _ (hs4 _ (hP3 _ (.tail _ hp))))))) h
  refine useP (mk_call hT5 (hs7 _ (hs6 _ (.tail _ hbeg))) (Nds.of hbt7)) (by assumption) d3 u3 ?_
  intro w6 P8 s20 S21 hs8 hT6
  obtain ⟨_, _, _, hcs, hcd⟩ := consts_of hbc
  refine ⟨_, _ :: _ :: own, [], P8, by rw [List.append_nil]; exact S21, fun p hp => hs8 _ (hs7 _ (hs6 _ (.tail _ (hs5 _ (hs4 _ (hP3 _ (.tail _ (hP2 _ (.tail _ (hP1 _ (.tail _ (.tail _ hp)))))))))))), (by rfl), _, _, _, _, _, _, _, _, rfl, hD6, hT6, Bl.letL (nf_in a (kk + 1)) (by omega) (by omega) (hB4.append (Bl.one hBt)) hbc, ?_, ?_⟩
  · simp only [T.size, sizes_append, sizes, nf_len]; omega
  · simp only [T.dep, deps_append, deps]; omega
theorem late_all (w : World) : Maker w 555 2 12 1737 22 56 := by
  have v0 := value_of (w := w) 0 6 1 1 (by decide) (by decide) (by decide) (fun d' h => nomatch h)
  have l0 := late_x 0 _ _ _ (by decide) (by decide) v0
  have v1 := value_of (w := w) 1 8 57 8 (by decide) (by decide) (by decide) (fun d' h => by cases h; exact l0)
  have l1 := late_x 1 _ _ _ (by decide) (by decide) v1
  have v2 := value_of (w := w) 2 10 337 15 (by decide) (by decide) (by decide) (fun d' h => by cases h; exact l1)
  exact late_x 2 _ _ _ (by decide) (by decide) v2
end Mine
end
section
namespace Mine
theorem enterG {w : World} {c : Cx} {m : Str → Option Value} {cells rest P : Led} {s : Shared} {Q E : Value → Shared → Prop} {K : Frag} {name qual : Str} {params : Arguments} {body : List Stmt} {ns : List (Str × NameKind)} {mo : List (Str × Const)} {dV kV doc pm cdv ct oc : Value} {an od : Option Addr} {osl : Array (Option Value)} {f : Addr} {vs : List Value} {Out : Led → Led → Value → Prop}
    (hK : K = hd.heap_39 w.params) (S : St w c m (cells ++ rest) P s)
    (ho : K.lookup f = some ⟨oc, od, .func (fnOf name qual params body (fnSc ns mo) dV kV doc pm an cdv ct), osl⟩) (hcd : codeIn K cdv qual = true) (hroom : c.A.depth < recursionLimit)
    (hbind : BindsTo s (fnOf name qual params body (fnSc ns mo) dV kV doc pm an cdv ct) ⟨vs, []⟩ ((params.args.map (·.arg)).zip vs)) (hlen : (params.args.map (·.arg)).length = vs.length) (hgood : goodFn ns (params.args.map (·.arg)) = true)
    (h : ∀ c' s', goodNs ns = true → c'.A.depth = c.A.depth + 1 → c'.A.units = c.A.units + 3 → St w c' (asg ns (vs.map some)) cells P s' →
      wpAny (model PySem.Challenge.rw_pq1024_01.row.prog w) c'.A (execs body (envX qual (fnSc ns mo) c'.L f cdv [])) (fun fl s'' => Ends w c' P Out (match fl with | .ret v => v | _ => .none) s'') (fun _ _ => False) s')
    (ret : ∀ r cells' P' s', St w c m (cells' ++ rest) P' s' → (∀ p ∈ P, p ∈ P') → Out cells' P' r → Q r s') :
    codeAny (model PySem.Challenge.rw_pq1024_01.row.prog w) c.A (.call (.ref f) ⟨vs, []⟩) (fun r s' => match r with | .ok (.ret v) => Q v s' | .ok _ => False | .error e => E e s') s := by
  subst hK
  obtain ⟨e, hA, hf, hke⟩ := S.fr
  have Nsub : News c.g c.L s.heap (cells ++ P) := fun p hp => S.N p ((List.mem_append.mp hp).elim (fun h => List.mem_append_left _ (List.mem_append_left _ h)) fun h => List.mem_append_right _ h)
  simp only [goodFn, Bool.and_eq_true, List.all_eq_true, bne_iff_ne, ne_eq] at hgood
  obtain ⟨⟨hg, hpre⟩, hcell⟩ := hgood
  have hloc : ∀ y ∈ (params.args.map (·.arg)).zip vs, (fnSc ns mo).names.lookup y.1 = some .local := fun y hy => (goodNs_mem hg (prefix_mem hpre _ (List.of_mem_zip hy).1)).1
  refine code_defG (news := cells ++ P) S.B S.F S.X Nsub S.T hA hf hke ho hcd hroom hbind hloc (fun g L' h₁ FG F' N' B' X' T' G' => ?_) rfl rfl rfl hcell
  have hasg : (fun y => ((params.args.map (·.arg)).zip vs).reverse.lookup y) = asg ns (vs.map some) := funext fun y => asg_args y hg hpre hlen
  rw [hasg] at F'
  have ndc : (cells.map (·.1)).Nodup := by
    have := S.nd
    rw [List.map_append] at this
    exact (List.nodup_append.mp this).1
  let c' : Cx := ⟨c.pp, c.loose, c.mean, c.mg, c.mb, c.A, c.base, e :: c.outer, g, L', c.A.deeper (envOf qual (fnSc ns mo) L' f cdv), s⟩
  have S' : St w c' (asg ns (vs.map some)) cells P { s with heap := h₁, toks := s.toks + ((params.args.map (·.arg)).zip vs).length } :=
    ⟨F', N', apart_left S.ap, ndc, X', T', B', S.hh, ⟨_, Around.frames_deeper B'.stack, rfl, rfl⟩, rfl, rfl, rfl⟩
  refine wpAny_mono (h c' _ hg rfl rfl S') (fun fl s' hdn => ?_) fun _ _ e => e.elim
  obtain ⟨m₂, cells', own', P', S₂, hs, hO⟩ := hdn
  refine ⟨L', m₂, (cells' ++ own') ++ P', S₂.F, S₂.N, fun F₃ N₃ => ?_⟩
  have hid : ∀ q ∈ rest, q.1 ∉ (cells ++ P).map (·.1) := fun q hq hm => by
    obtain ⟨p, hp, e⟩ := List.mem_map.mp hm
    rcases List.mem_append.mp hp with hp | hp
    · have := S.nd
      rw [List.map_append, List.nodup_append] at this
      exact this.2.2 p.1 (List.mem_map_of_mem hp) q.1 (List.mem_map_of_mem hq) e
    · exact S.ap q (List.mem_append_right _ hq) p hp e
  have gq : ∀ q ∈ rest, g.get? q.1 = some q.2 := fun q hq => G' _ _ (S.N q (List.mem_append_left _ (List.mem_append_right _ hq))).1 (hid q hq)
  have eq' : s' = { s with heap := s'.heap, toks := s'.toks } := by
    have h1 := S₂.eg
    have h2 := S₂.ed
    have h3 := S₂.eo
    cases s'
    dsimp only [c'] at h1 h2 h3
    subst h1 h2 h3
    rfl
  have ap' : Apart (cells' ++ rest) P' := by
    intro q hq p hp e
    rcases List.mem_append.mp hq with hq | hq
    · exact S₂.ap q (List.mem_append_left _ hq) p hp e
    · have h1 := (S₂.N p (List.mem_append_right _ hp)).2.2
      rw [e, gq q hq] at h1
      cases h1
  have nd' : ((cells' ++ rest).map (·.1)).Nodup := by
    have h1 := S.nd
    have h2 := S₂.nd
    rw [List.map_append] at h1 h2 ⊢
    refine List.nodup_append.mpr ⟨(List.nodup_append.mp h2).1, (List.nodup_append.mp h1).2.1, fun a ha b hb e => ?_⟩
    obtain ⟨q, hq, rfl⟩ := List.mem_map.mp ha
    obtain ⟨p, hp, rfl⟩ := List.mem_map.mp hb
    have h3 := (S₂.N q (List.mem_append_left _ (List.mem_append_left _ hq))).2.2
    rw [e, gq p hp] at h3
    cases h3
  refine ret _ cells' P' s' ⟨F₃, fun p hp => ?_, ap', nd', S.X, S.T, S.B, S.hh, S.fr, (congrArg Shared.gens eq').trans S.eg, (congrArg Shared.drawn eq').trans S.ed, (congrArg Shared.os eq').trans S.eo⟩ hs hO
  rcases List.mem_append.mp hp with hp | hp
  · rcases List.mem_append.mp hp with hp | hp
    · exact N₃ p (List.mem_append_left _ (List.mem_append_left _ hp))
    · exact ⟨S₂.F.keep _ _ (gq p hp), (S.N p (List.mem_append_left _ (List.mem_append_right _ hp))).2⟩
  · exact N₃ p (List.mem_append_right _ hp)

/-! ## dicts whose keys are ints -/
abbrev IK (w : World) := PySem.intKind PySem.Challenge.rw_pq1024_01.row.prog w
abbrev KV := List (Int × Value)
inductive Dcs (w : World) : Led → List (Addr × KV) → Prop
  | nil : Dcs w [] []
  | cons {d : Addr} {o : Obj} {kv : KV} {cells : Led} {l : List (Addr × KV)} : o.IsDictOf (IK w) kv → (d == sysModules) = false → Dcs w cells l → Dcs w ((d, o) :: cells) ((d, kv) :: l)
theorem Dcs.at {w : World} : ∀ {cells : Led} {l : List (Addr × KV)} {i : Nat} {d : Addr} {kv : KV}, Dcs w cells l → l[i]? = some (d, kv) → ∃ o, cells[i]? = some (d, o) ∧ o.IsDictOf (IK w) kv ∧ (d == sysModules) = false
  | _, _, 0, _, _, .cons h k _, e => by cases e; exact ⟨_, rfl, h, k⟩
  | _, _, i + 1, _, _, .cons _ _ r, e => r.at (i := i) e
theorem Dcs.set {w : World} : ∀ {cells : Led} {l : List (Addr × KV)} {i : Nat} {d : Addr} {kv kv' : KV} {o' : Obj}, Dcs w cells l → l[i]? = some (d, kv) → o'.IsDictOf (IK w) kv' → Dcs w (cells.set i (d, o')) (l.set i (d, kv'))
  | _, _, 0, _, _, _, _, .cons _ k r, e, ho => by cases e; exact .cons ho k r
  | _, _, i + 1, _, _, _, _, .cons h k r, e, ho => .cons h k (r.set (i := i) e ho)
theorem Dcs.append {w : World} : ∀ {cells cells' : Led} {l l' : List (Addr × KV)}, Dcs w cells l → Dcs w cells' l' → Dcs w (cells ++ cells') (l ++ l')
  | _, _, _, _, .nil, k => k
  | _, _, _, _, .cons h k r, k' => .cons h k (r.append k')
theorem Dcs.length {w : World} : ∀ {cells : Led} {l : List (Addr × KV)}, Dcs w cells l → cells.length = l.length
  | _, _, .nil => rfl
  | _, _, .cons _ _ r => by rw [List.length_cons, List.length_cons, r.length]
theorem set_split {α : Type} : ∀ {l : List α} {i : Nat} {a b : α}, l[i]? = some a → l = l.take i ++ a :: l.drop (i + 1) ∧ l.set i b = l.take i ++ b :: l.drop (i + 1)
  | x :: r, 0, _, _, e => by cases e; exact ⟨rfl, rfl⟩
  | x :: r, i + 1, a, b, e => by
    have := set_split (b := b) (l := r) (i := i) e
    refine ⟨?_, ?_⟩
    · show x :: r = x :: (r.take i ++ a :: r.drop (i + 1))
      rw [← this.1]
    · show x :: r.set i b = x :: (r.take i ++ b :: r.drop (i + 1))
      rw [← this.2]
section
variable {w : World} {c : Cx} {m : Str → Option Value} {cells rest P : Led} {l : List (Addr × KV)} {s : Shared} {E : Value → Shared → Prop} {Q : Value → Shared → Prop} {i : Nat} {d : Addr} {kv : KV} {k : Int} {t : Tok}
theorem mem_of_get {α : Type} {l : List α} {i : Nat} {a : α} (h : l[i]? = some a) : a ∈ l := List.mem_of_getElem? h
theorem dset {v : Value} {Q : Unit → Shared → Prop} (D : Dcs w cells l) (S : St w c m (cells ++ rest) P s) (hi : l[i]? = some (d, kv)) (hz : kv.length ≤ 1000000)
    (h : ∀ cells' s', Dcs w cells' (l.set i (d, stored kv k v)) → St w c m (cells' ++ rest) P s' → Q () s') : wpAny (model PySem.Challenge.rw_pq1024_01.row.prog w) c.A (PySem.setItem (.ref d) (.int k t) v) Q E s := by
  obtain ⟨o, hc, ho, hlo⟩ := D.at hi
  have hm := S.N (d, o) (List.mem_append_left _ (List.mem_append_left _ (mem_of_get hc)))
  refine wpAny_setItem_pairs (hsz := fits_le hz) (intKind_is _ _ _ _) (Heap.dictOf_iff.mpr ⟨o, hm.1, ho⟩) fun h' hmm hs => ?_
  obtain ⟨o', ho', hd'⟩ := Heap.dictOf_iff.mp hmm
  refine h (cells.set i (d, o')) _ (D.set hi hd') ?_
  have e := set_split (b := (d, o')) hc
  have S1 : St w c m (cells.take i ++ (d, o) :: (cells.drop (i + 1) ++ rest)) P s := by
    have := S
    rw [e.1] at this
    simpa using this
  have S2 := S1.put (tk := s.toks + 1) (fun b ob hb eb => hs.extBut b ob hb eb) ho'
  rw [e.2]
  simpa using S2
theorem dN (D : Dcs w cells l) (_S : St w c m (cells ++ rest) P s) (hi : l[i]? = some (d, kv)) : ∃ o, (d, o) ∈ (cells ++ rest) ++ P ∧ o.IsDictOf (IK w) kv ∧ (d == sysModules) = false := by
  obtain ⟨o, hc, ho, hlo⟩ := D.at hi
  exact ⟨o, List.mem_append_left _ (List.mem_append_left _ (mem_of_get hc)), ho, hlo⟩
theorem ditem {value slice : Expr} {v : Value} (D : Dcs w cells l) (S : St w c m (cells ++ rest) P s) (hi : l[i]? = some (d, kv)) (hl : valueAt kv k = some v) (h : ∀ s', St w c m (cells ++ rest) P s' → Q v s')
    (hs : subscripted slice false (.ref d) (.int k t) = operate [.ref d, .int k t] (getItem (.ref d) (.int k t))) :
    wpAny (model PySem.Challenge.rw_pq1024_01.row.prog w) c.A (subscriptTail value slice (.ref d) (.int k t)) Q E s := by
  obtain ⟨o, hm, ho, hlo⟩ := dN D S hi
  exact tail_any (kda_dict S.N hm ho).typeIs slot_dict_getitem.lookup (kdt_getItem (knd := IK w) S.N hm ho (intKind_is _ _ _ _) hl (h _ (S.tok _))) hs
theorem dgetitem {v : Value} (D : Dcs w cells l) (S : St w c m (cells ++ rest) P s) (hi : l[i]? = some (d, kv)) (hl : valueAt kv k = some v) (h : ∀ s', St w c m (cells ++ rest) P s' → Q v s') :
    wpAny (model PySem.Challenge.rw_pq1024_01.row.prog w) c.A (getItem (.ref d) (.int k t)) Q E s := by
  obtain ⟨o, hm, ho, hlo⟩ := dN D S hi
  exact kdt_getItem (knd := IK w) S.N hm ho (intKind_is _ _ _ _) hl (h _ (S.tok _))
theorem dget2 {dflt : Value} (D : Dcs w cells l) (S : St w c m (cells ++ rest) P s) (hi : l[i]? = some (d, kv)) (h : ∀ s', St w c m (cells ++ rest) P s' → Q ((valueAt kv k).getD dflt) s') :
    wpAny (model PySem.Challenge.rw_pq1024_01.row.prog w) c.A (call (.builtin "dict.get") [.ref d, .int k t, dflt]) Q E s := by
  obtain ⟨o, hm, ho, hlo⟩ := dN D S hi
  exact kdg_get2 (knd := IK w) S.N hm ho hlo (intKind_is _ _ _ _) _ rfl (h _ (S.tok _))
theorem dgetm {pl : Sem Bool} {Q : Value × List Value → Shared → Prop} (D : Dcs w cells l) (S : St w c m (cells ++ rest) P s) (hi : l[i]? = some (d, kv)) (h : Q (.builtin "dict.get", [.ref d]) s) : wpAny (model PySem.Challenge.rw_pq1024_01.row.prog w) c.A (getMethod (.ref d) "get" pl) Q E s := by
  obtain ⟨o, hm, ho, hlo⟩ := dN D S hi
  exact kdg_method (knd := IK w) S.N hm ho h
theorem din (D : Dcs w cells l) (S : St w c m (cells ++ rest) P s) (hi : l[i]? = some (d, kv)) (h : ∀ s', St w c m (cells ++ rest) P s' → Q (.bool (valueAt kv k).isSome) s') : wpAny (model PySem.Challenge.rw_pq1024_01.row.prog w) c.A (compareOp .In (.int k t) (.ref d)) Q E s := by
  obtain ⟨o, hm, ho, hlo⟩ := dN D S hi
  exact kda_in (knd := IK w) S.N hm ho hlo (intKind_is _ _ _ _) _ rfl (h _ (S.tok _))
theorem dnotin (D : Dcs w cells l) (S : St w c m (cells ++ rest) P s) (hi : l[i]? = some (d, kv)) (h : ∀ s', St w c m (cells ++ rest) P s' → Q (.bool (!(valueAt kv k).isSome)) s') : wpAny (model PySem.Challenge.rw_pq1024_01.row.prog w) c.A (compareOp .NotIn (.int k t) (.ref d)) Q E s := by
  obtain ⟨o, hm, ho, hlo⟩ := dN D S hi
  exact kdg_notin (knd := IK w) S.N hm ho hlo (intKind_is _ _ _ _) _ rfl (h _ (S.tok _))
theorem dnew {env : Env} {pos : Pos} {own : Led} (S : St w c m own P s) (h : ∀ d o s', o.IsDictOf (IK w) [] → (d == sysModules) = false → St w c m ((d, o) :: own) P s' → Q (.ref d) s') :
    wpAny (model PySem.Challenge.rw_pq1024_01.row.prog w) c.A (eval (.Dict [] [] pos) env) Q E s :=
  newDict_K S.F S.N S.T.nolimit fun d h' o F' N' lt lo _ _ hd _ => h d o _ hd lo (S.addO (tk := s.toks) F' N' lt)
end
theorem valueAt_stored (kv : KV) (k x : Int) (v : Value) : valueAt (stored kv k v) x = if x = k then some v else valueAt kv x := by
  unfold stored
  by_cases h : (kv.any fun kv => kv.1 = k) = true
  · rw [if_pos h]
    induction kv with
    | nil => simp at h
    | cons p r ih =>
      by_cases hp : p.1 = k
      · subst hp
        by_cases hx : x = p.1
        · subst hx; simp [valueAt]
        · have hx' : ¬ p.1 = x := fun e => hx e.symm
          have : ∀ r : KV, valueAt (r.map fun kv => if kv.1 = p.1 then (kv.1, v) else kv) x = valueAt r x := by
            intro r
            induction r with
            | nil => rfl
            | cons q r ih =>
              simp only [valueAt, List.map_cons, List.find?_cons] at ih ⊢
              by_cases hq : q.1 = p.1
              · have : ¬ q.1 = x := fun e => hx' (hq ▸ e)
                simp only [hq, if_true, hx', decide_false, this]
                simpa using ih
              · simp only [hq, if_false]
                by_cases hqx : q.1 = x
                · simp [hqx]
                · simp only [hqx, decide_false]; simpa using ih
          have h2 := this r
          simp only [valueAt, List.map_cons, List.find?_cons, if_true, hx', decide_false, hx, if_false] at h2 ⊢
          simpa using h2
      · have h' : (r.any fun kv => kv.1 = k) = true := by simpa [List.any_cons, hp] using h
        have ih := ih h'
        simp only [valueAt, List.map_cons, List.find?_cons, hp, if_false] at ih ⊢
        by_cases hx : p.1 = x
        · have : ¬ x = k := fun e => hp (hx.trans e)
          simp [hx, this]
        · simp only [hx, decide_false]; simpa using ih
  · rw [if_neg h]
    have hn : ∀ p ∈ kv, ¬ p.1 = k := fun p hp e => h (List.any_eq_true.mpr ⟨p, hp, by simpa using e⟩)
    unfold valueAt
    rw [List.find?_append]
    by_cases hx : x = k
    · subst hx
      have : (kv.find? fun q => decide (q.1 = x)) = none := List.find?_eq_none.mpr fun p hp => by simpa using hn p hp
      simp [this]
    · have : ¬ k = x := fun e => hx e.symm
      simp [hx, this]
theorem len_stored (kv : KV) (k : Int) (v : Value) : (stored kv k v).length ≤ kv.length + 1 := stored_length_le kv k v
theorem valueAt_nil (x : Int) : valueAt ([] : KV) x = none := rfl
end Mine
end
section
namespace Mine
/-! ## what fixing makes of a tree -/
mutual
def setn : T → List Int
  | .cint _ => [] | .cun => [] | .loc _ => [] | .glob _ => []
  | .setl n v => n :: setn v
  | .lam _ _ b => setn b
  | .call f xs => setn f ++ setns xs
  | .seq xs => setns xs
  | .fix _ ls b => setns ls ++ setn b
def setns : List T → List Int
  | [] => []
  | t :: r => setn t ++ setns r
end
theorem setns_append : ∀ a b : List T, setns (a ++ b) = setns a ++ setns b
  | [], _ => rfl
  | t :: r, b => by simp only [List.cons_append, setns, setns_append r b, List.append_assoc]
def T.hereSet : T → List Int
  | .setl n _ => [n]
  | _ => []
theorem setn_eq (t : T) : setn t = t.hereSet ++ setns t.kids := by
  cases t <;> simp [setn, T.hereSet, T.kids, setns, setns_append]
theorem setns_mem : ∀ {l : List T} {t : T}, t ∈ l → ∀ n ∈ setn t, n ∈ setns l
  | _ :: r, _, .head _, n, h => List.mem_append_left _ h
  | _ :: r, _, .tail _ m, n, h => List.mem_append_right _ (setns_mem m n h)
theorem setn_kid {t k : T} (h : k ∈ t.kids) : ∀ n ∈ setn k, n ∈ setn t := fun n hn => by rw [setn_eq]; exact List.mem_append_right _ (setns_mem h n hn)

def isLC (v : T) : Bool := v.kind == 7 || v.kind == 0
def isE : T → Bool
  | .setl _ v => isLC v
  | _ => false
def isLam (v : T) : Bool := v.kind == 7
def tkn (c : Int → Nat) (late : List Int) : T → Bool
  | .setl n v => isLam v && (late.contains n && c n == 1)
  | _ => false
def T.num : T → Int
  | .setl n _ => n
  | _ => 0
def T.valu : T → T
  | .setl _ v => v
  | t => t
def T.isUn : T → Bool
  | .cun => true
  | _ => false
def lateOf (ps : List Int) (xs : List T) : List Int := ((ps.zip xs).filter fun p => p.2.isUn).map (·.1)
def seqOf : List T → T
  | [t] => t
  | ts => .seq ts
def early (items : List T) : List T := (items.dropLast).takeWhile isE
def turnL (c : Int → Nat) (l : Int) (ps : List Int) (items xs : List T) : T :=
  let pre := early items
  let tk := pre.filter (tkn c (lateOf ps xs))
  if tk.isEmpty then .call (.lam l ps (.seq items)) xs else
    let body := T.fix (tk.map T.num) (tk.map T.valu) (seqOf (pre.filter (fun t => !tkn c (lateOf ps xs) t) ++ items.drop pre.length))
    let kept := (ps.zip xs).filter fun p => !(tk.map T.num).contains p.1
    if kept.isEmpty then body else .call (.lam l (kept.map (·.1)) body) (kept.map (·.2))
def turn (c : Int → Nat) : T → T
  | .call (.lam l ps (.seq items)) xs => if ps.length = xs.length then turnL c l ps items xs else .call (.lam l ps (.seq items)) xs
  | t => t
mutual
def fixT (c : Int → Nat) : T → T
  | .setl n v => .setl n (fixT c v)
  | .lam l ps b => .lam l ps (fixT c b)
  | .call f xs => turn c (.call (fixT c f) (fixTs c xs))
  | .seq xs => .seq (fixTs c xs)
  | .fix ns ls b => .fix ns (fixTs c ls) (fixT c b)
  | .cint i => .cint i
  | .cun => .cun
  | .loc n => .loc n
  | .glob n => .glob n
def fixTs (c : Int → Nat) : List T → List T
  | [] => []
  | t :: r => fixT c t :: fixTs c r
end
theorem fixTs_map (c : Int → Nat) : ∀ l : List T, fixTs c l = l.map (fixT c)
  | [] => rfl
  | t :: r => by rw [fixTs, fixTs_map c r]; rfl
/-- the tree with other kids -/
def T.wk : T → List T → T
  | .setl n _, [v] => .setl n v
  | .lam l ps _, [b] => .lam l ps b
  | .call _ _, f :: xs => .call f xs
  | .seq _, xs => .seq xs
  | t, _ => t
def noFix : T → Bool
  | .fix _ _ _ => false
  | _ => true
theorem fixT_eq (c : Int → Nat) (t : T) (h : noFix t = true) : fixT c t = turn c (t.wk (t.kids.map (fixT c))) := by
  cases t with
  | cint i => rfl
  | cun => rfl
  | loc n => rfl
  | glob n => rfl
  | setl n v => simp [fixT, T.kids, T.wk, turn]
  | lam l ps b => simp [fixT, T.kids, T.wk, turn]
  | call f xs => simp [fixT, T.kids, T.wk, fixTs_map]
  | seq xs => simp [fixT, T.kids, T.wk, turn, fixTs_map]
  | fix ns ls b => simp [noFix] at h
theorem wk_kids (t : T) : t.wk t.kids = t := by cases t <;> rfl

/-! measures -/
theorem sizes_filter (p : T → Bool) : ∀ l : List T, sizes (l.filter p) + sizes (l.filter fun t => !p t) = sizes l
  | [] => rfl
  | t :: r => by
    have := sizes_filter p r
    cases hp : p t <;> simp [List.filter_cons, hp, sizes] <;> omega
theorem sizes_map_valu : ∀ l : List T, (∀ t ∈ l, isE t = true) → sizes (l.map T.valu) + l.length = sizes l
  | [], _ => rfl
  | t :: r, h => by
    have h1 := sizes_map_valu r fun t ht => h t (.tail _ ht)
    have h2 := h t (.head _)
    cases t <;> simp [isE] at h2
    simp only [List.map_cons, T.valu, sizes, List.length_cons, T.size]; omega
theorem size_seqOf : ∀ l : List T, (seqOf l).size ≤ sizes l + 1
  | [] => by simp [seqOf, T.size, sizes]
  | [t] => by simp [seqOf, sizes]
  | t :: u :: r => by simp [seqOf, T.size]
theorem mem_tw {α : Type} {p : α → Bool} : ∀ {l : List α} {x : α}, x ∈ l.takeWhile p → p x = true
  | [], _, h => nomatch h
  | y :: r, x, h => by
    rw [List.takeWhile_cons] at h
    split at h
    · rename_i hp
      rcases List.mem_cons.mp h with rfl | h
      · exact hp
      · exact mem_tw h
    · cases h
theorem early_isE {items : List T} : ∀ t ∈ early items, isE t = true := fun t ht => mem_tw ht
theorem takeWhile_take {α : Type} (p : α → Bool) : ∀ l : List α, l.takeWhile p = l.take (l.takeWhile p).length
  | [] => rfl
  | x :: r => by
    rw [List.takeWhile_cons]
    split
    · rw [List.length_cons, List.take_succ_cons, ← takeWhile_take p r]
    · rfl
theorem early_len (items : List T) : (early items).length ≤ items.length - 1 := by
  have h2 : (early items).length ≤ items.dropLast.length := (List.takeWhile_sublist _).length_le
  rwa [List.length_dropLast] at h2
theorem early_take (items : List T) : early items = items.take (early items).length := by
  have h1 : early items = (items.dropLast).take (early items).length := takeWhile_take isE items.dropLast
  rw [List.dropLast_eq_take, List.take_take, Nat.min_eq_left (early_len items)] at h1
  exact h1
theorem early_split (items : List T) : early items ++ items.drop (early items).length = items := by
  have h := early_take items
  calc early items ++ items.drop (early items).length = items.take (early items).length ++ items.drop (early items).length := by rw [← h]
    _ = items := List.take_append_drop _ _
theorem sizes_sub : ∀ {a b : List T}, a.Sublist b → sizes a ≤ sizes b
  | _, _, .slnil => Nat.le_refl _
  | _, _, .cons _ h => by have := sizes_sub h; simp only [sizes]; omega
  | _, _, .cons_cons _ h => by have := sizes_sub h; simp only [sizes]; omega
theorem zip_snd {α β : Type} : ∀ {a : List α} {b : List β}, a.length = b.length → (a.zip b).map (·.2) = b
  | [], [], _ => rfl
  | _ :: a, _ :: b, h => by simp [zip_snd (a := a) (b := b) (by simpa using h)]
theorem size_turnL (c : Int → Nat) (l : Int) (ps : List Int) (items xs : List T) (hl : ps.length = xs.length) : (turnL c l ps items xs).size ≤ (T.call (.lam l ps (.seq items)) xs).size + 1 := by
  unfold turnL
  dsimp only
  split
  · omega
  · generalize htk : (early items).filter (tkn c (lateOf ps xs)) = tk
    generalize hrs : (early items).filter (fun t => !tkn c (lateOf ps xs) t) = rs
    have h1 : sizes tk + sizes rs = sizes (early items) := by rw [← htk, ← hrs]; exact sizes_filter _ _
    have h2 : sizes (tk.map T.valu) + tk.length = sizes tk := sizes_map_valu tk fun t ht => by
      rw [← htk] at ht; exact early_isE t (List.mem_filter.mp ht).1
    have h3 : sizes (early items) + sizes (items.drop (early items).length) = sizes items := by
      rw [← sizes_append, early_split]
    have h4 := size_seqOf (rs ++ items.drop (early items).length)
    rw [sizes_append] at h4
    split
    · simp only [T.size, List.length_map]; omega
    · have h5 : ((ps.zip xs).filter fun p => !(tk.map T.num).contains p.1).length ≤ ps.length := by
        refine Nat.le_trans (List.length_filter_le _ _) ?_
        rw [List.length_zip]; omega
      have h6 : sizes (((ps.zip xs).filter fun p => !(tk.map T.num).contains p.1).map (·.2)) ≤ sizes xs := by
        have := sizes_sub ((List.filter_sublist (l := ps.zip xs) (p := fun p => !(tk.map T.num).contains p.1)).map (·.2))
        rw [zip_snd hl] at this
        exact this
      simp only [T.size, List.length_map]; omega
theorem size_turn (c : Int → Nat) (t : T) : (turn c t).size ≤ t.size + 1 := by
  unfold turn
  split
  · split
    · rename_i h; exact size_turnL c _ _ _ _ h
    · omega
  · omega
mutual
theorem size_fixT (c : Int → Nat) : ∀ t : T, (fixT c t).size ≤ 2 * t.size
  | .setl n v => by have := size_fixT c v; simp only [fixT, T.size]; omega
  | .lam l ps b => by have := size_fixT c b; simp only [fixT, T.size]; omega
  | .call f xs => by
    have h1 := size_fixT c f
    have h2 := size_fixTs c xs
    have h3 := size_turn c (.call (fixT c f) (fixTs c xs))
    simp only [fixT]
    simp only [T.size] at h3 ⊢
    omega
  | .seq xs => by have := size_fixTs c xs; simp only [fixT, T.size]; omega
  | .fix ns ls b => by have h1 := size_fixTs c ls; have h2 := size_fixT c b; simp only [fixT, T.size]; omega
  | .cint i => by simp [fixT, T.size]
  | .cun => by simp [fixT, T.size]
  | .loc n => by simp [fixT, T.size]
  | .glob n => by simp [fixT, T.size]
theorem size_fixTs (c : Int → Nat) : ∀ l : List T, sizes (fixTs c l) ≤ 2 * sizes l
  | [] => by simp [fixTs, sizes]
  | t :: r => by have h1 := size_fixT c t; have h2 := size_fixTs c r; simp only [fixTs, sizes]; omega
end
/-! depth: at most twice -/
theorem deps_sub : ∀ {a b : List T}, a.Sublist b → deps a ≤ deps b
  | _, _, .slnil => Nat.le_refl _
  | _, _, .cons _ h => by have := deps_sub h; simp only [deps]; omega
  | _, _, .cons_cons _ h => by have := deps_sub h; simp only [deps]; omega
theorem deps_le {l : List T} {n : Nat} (h : ∀ t ∈ l, t.dep ≤ n) : deps l ≤ n := by
  induction l with
  | nil => exact Nat.zero_le _
  | cons t r ih =>
    have h1 := h t (.head _)
    have h2 := ih fun t ht => h t (.tail _ ht)
    simp only [deps]; omega
theorem dep_valu (t : T) : t.valu.dep ≤ t.dep := by cases t <;> simp [T.valu, T.dep]
theorem dep_seqOf : ∀ l : List T, (seqOf l).dep ≤ deps l + 1
  | [] => by simp [seqOf, T.dep, deps]
  | [t] => by simp [seqOf, deps]
  | t :: u :: r => by simp [seqOf, T.dep]
theorem dep_turnL (c : Int → Nat) (l : Int) (ps : List Int) (items xs : List T) (hl : ps.length = xs.length) : (turnL c l ps items xs).dep ≤ (T.call (.lam l ps (.seq items)) xs).dep + 1 := by
  unfold turnL
  dsimp only
  split
  · omega
  · generalize htk : (early items).filter (tkn c (lateOf ps xs)) = tk
    generalize hrs : (early items).filter (fun t => !tkn c (lateOf ps xs) t) = rs
    have se : ∀ t ∈ early items, t ∈ items := fun t ht => by
      have := early_split items
      rw [← this]; exact List.mem_append_left _ ht
    have h1 : deps (tk.map T.valu) ≤ deps items := deps_le fun t ht => by
      obtain ⟨u, hu, rfl⟩ := List.mem_map.mp ht
      rw [← htk] at hu
      exact Nat.le_trans (dep_valu u) (dep_mem (se u (List.mem_filter.mp hu).1))
    have h2 : deps (rs ++ items.drop (early items).length) ≤ deps items := deps_le fun t ht => by
      rcases List.mem_append.mp ht with ht | ht
      · rw [← hrs] at ht; exact dep_mem (se t (List.mem_filter.mp ht).1)
      · exact dep_mem (List.mem_of_mem_drop ht)
    have h4 := dep_seqOf (rs ++ items.drop (early items).length)
    split
    · simp only [T.dep]; omega
    · have h6 : deps (((ps.zip xs).filter fun p => !(tk.map T.num).contains p.1).map (·.2)) ≤ deps xs := by
        have := deps_sub ((List.filter_sublist (l := ps.zip xs) (p := fun p => !(tk.map T.num).contains p.1)).map (·.2))
        rw [zip_snd hl] at this
        exact this
      simp only [T.dep]; omega
theorem dep_turn (c : Int → Nat) (t : T) : (turn c t).dep ≤ t.dep + 1 := by
  unfold turn
  split
  · split
    · rename_i h; exact dep_turnL c _ _ _ _ h
    · omega
  · omega
mutual
theorem dep_fixT (c : Int → Nat) : ∀ t : T, (fixT c t).dep ≤ 2 * t.dep
  | .setl n v => by have := dep_fixT c v; simp only [fixT, T.dep]; omega
  | .lam l ps b => by have := dep_fixT c b; simp only [fixT, T.dep]; omega
  | .call f xs => by
    have h1 := dep_fixT c f
    have h2 := dep_fixTs c xs
    have h3 := dep_turn c (.call (fixT c f) (fixTs c xs))
    simp only [fixT]
    simp only [T.dep] at h3 ⊢
    omega
  | .seq xs => by have := dep_fixTs c xs; simp only [fixT, T.dep]; omega
  | .fix ns ls b => by have h1 := dep_fixTs c ls; have h2 := dep_fixT c b; simp only [fixT, T.dep]; omega
  | .cint i => by simp [fixT, T.dep]
  | .cun => by simp [fixT, T.dep]
  | .loc n => by simp [fixT, T.dep]
  | .glob n => by simp [fixT, T.dep]
theorem dep_fixTs (c : Int → Nat) : ∀ l : List T, deps (fixTs c l) ≤ 2 * deps l
  | [] => by simp [fixTs, deps]
  | t :: r => by have h1 := dep_fixT c t; have h2 := dep_fixTs c r; simp only [fixTs, deps]; omega
end
end Mine
end
section
namespace Mine
theorem bt_list : bootBuiltins (Str.ofString "list") = some (.type "list") := by boot_by_name
theorem bt_ne_list : (Str.ofString "list") ≠ "__name__" := by decide
theorem bt_zip : bootBuiltins (Str.ofString "zip") = some (.type "zip") := by boot_by_name
theorem bt_ne_zip : (Str.ofString "zip") ≠ "__name__" := by decide
theorem bt_abs : bootBuiltins (Str.ofString "abs") = some (.builtin "abs") := by boot_by_name
theorem bt_ne_abs : (Str.ofString "abs") ≠ "__name__" := by decide
theorem bt_sum : bootBuiltins (Str.ofString "sum") = some (.builtin "sum") := by boot_by_name
theorem bt_ne_sum : (Str.ofString "sum") ≠ "__name__" := by decide
section
variable {w : World} {c : Cx} {m : Str → Option Value} {own P : Led} {s : Shared} {E : Value → Shared → Prop} {Q : Value → Shared → Prop} {cn : Str} {a : Addr} {ccd : Value} {cl : List (Str × Addr)}
theorem cutN {α : Type} {ns : List (Str × NameKind)} {t : Sem α} {Q : α → Shared → Prop} (_ : goodNs ns = true) (Mid : List (Str × NameKind) → α → Shared → Prop) (h1 : wpAny (model PySem.Challenge.rw_pq1024_01.row.prog w) c.A t (Mid ns) E s) (h2 : ∀ v s', Mid ns v s' → Q v s') : wpAny (model PySem.Challenge.rw_pq1024_01.row.prog w) c.A t Q E s :=
  wpAny_mono h1 h2 fun _ _ e => e
structure OwnFlag : Prop where
  on : True
theorem nl_flag {vs : List Value} (_ : OwnFlag) (S : St w c m own P s) (h : ∀ l s', St w c m ((l, listOf vs.toArray 0) :: own) P s' → Q (.ref l) s') (hsz : vs.length ≤ sizeLine) :
    wpAny (model PySem.Challenge.rw_pq1024_01.row.prog w) c.A (newList vs) Q E s := nl_own S h hsz
theorem ite_dt {b : Bool} {X Y : Prop} (hb : b = true) (h : X) : if b = true then X else Y := by rw [if_pos hb]; exact h
theorem ite_df {b : Bool} {X Y : Prop} (hb : b = false) (h : Y) : if b = true then X else Y := by rw [if_neg (by rw [hb]; decide)]; exact h
theorem is_int_ref {i : Int} {t : Tok} {x : Addr} (h : Q (.bool false) s) : wpAny (model PySem.Challenge.rw_pq1024_01.row.prog w) c.A (compareOp .Is (.int i t) (.ref x)) Q E s := wpAny_is_other rfl (by simp) h
theorem ne_int_ff {prog : Program} {A : Around} {a b : Int} {t u : Tok} (h : (a != b) = false) (hq : Q (.bool false) s) : wpAny (model prog w) A (compareOp .NotEq (.int a t) (.int b u)) Q E s := PyProof.Rows.ne_int (h ▸ hq)
theorem ne_int_tt {prog : Program} {A : Around} {a b : Int} {t u : Tok} (h : (a != b) = true) (hq : Q (.bool true) s) : wpAny (model prog w) A (compareOp .NotEq (.int a t) (.int b u)) Q E s := PyProof.Rows.ne_int (h ▸ hq)
theorem call3 {ns : List (Str × NameKind)} {mo : List (Str × Const)} {x : Str} {px pos : Pos} {fv : Value} {e1 e2 e3 : Expr} (S : St w c m own P s) (g : goodNs ns = true) (e : nsIn (hd.heap_39 w.params) mainGlobals x = some (some fv)) (hkp : keepIn (hd.heap_39 w.params) fv = true) (hx : (x, NameKind.globalImplicit) ∈ ns)
    (h : wpAny (model PySem.Challenge.rw_pq1024_01.row.prog w) c.A (eval e1 (envX cn (fnSc ns mo) c.L a ccd cl)) (fun v1 s1 => wpAny (model PySem.Challenge.rw_pq1024_01.row.prog w) c.A (eval e2 (envX cn (fnSc ns mo) c.L a ccd cl)) (fun v2 s2 => wpAny (model PySem.Challenge.rw_pq1024_01.row.prog w) c.A (eval e3 (envX cn (fnSc ns mo) c.L a ccd cl)) (fun v3 s3 => (hd.heap_39 w.params).In s3.heap ∧ wpAny (model PySem.Challenge.rw_pq1024_01.row.prog w) c.A (call fv [v1, v2, v3]) Q E s3) E s2) E s1) E s)
    (he1 : starEach [e1, e2, e3] (envX cn (fnSc ns mo) c.L a ccd cl) = (false, eval e1 (envX cn (fnSc ns mo) c.L a ccd cl)) :: starEach [e2, e3] (envX cn (fnSc ns mo) c.L a ccd cl)) (he2 : starEach [e2, e3] (envX cn (fnSc ns mo) c.L a ccd cl) = (false, eval e2 (envX cn (fnSc ns mo) c.L a ccd cl)) :: starEach [e3] (envX cn (fnSc ns mo) c.L a ccd cl))
    (he3 : starEach [e3] (envX cn (fnSc ns mo) c.L a ccd cl) = [(false, eval e3 (envX cn (fnSc ns mo) c.L a ccd cl))]) :
    wpAny (model PySem.Challenge.rw_pq1024_01.row.prog w) c.A (eval (.Call (.Name x px) [e1, e2, e3] [] pos) (envX cn (fnSc ns mo) c.L a ccd cl)) Q E s := by
  refine Call_ (ev_glob S g e hx ?_)
  refine callWith_K S.X hkp ?_ he1 (by rw [he2, he3]; rfl)
  exact args_cons (wpAny_mono h (fun v s1 h1 => args_cons (wpAny_mono h1 (fun v2 s2 h2 => args_cons (wpAny_mono h2 (fun v3 s3 h3 => args_nil h3) fun _ _ e => e) he3) fun _ _ e => e) he2) fun _ _ e => e) he1
theorem callT2 {ns : List (Str × NameKind)} {mo : List (Str × Const)} {x : Str} {px pos : Pos} {T : String} {e1 e2 : Expr} (S : St w c m own P s) (g : goodNs ns = true) (e : nsIn (hd.heap_39 w.params) mainGlobals x = some none) (hv : bootBuiltins x = some (.type T)) (hn : x ≠ "__name__") (hx : (x, NameKind.globalImplicit) ∈ ns)
    (h : wpAny (model PySem.Challenge.rw_pq1024_01.row.prog w) c.A (eval e1 (envX cn (fnSc ns mo) c.L a ccd cl)) (fun v1 s1 => wpAny (model PySem.Challenge.rw_pq1024_01.row.prog w) c.A (eval e2 (envX cn (fnSc ns mo) c.L a ccd cl)) (fun v2 s2 => wpAny (model PySem.Challenge.rw_pq1024_01.row.prog w) c.A (call (.type T) [v1, v2]) Q E s2) E s1) E s)
    (he1 : starEach [e1, e2] (envX cn (fnSc ns mo) c.L a ccd cl) = (false, eval e1 (envX cn (fnSc ns mo) c.L a ccd cl)) :: starEach [e2] (envX cn (fnSc ns mo) c.L a ccd cl)) (he2 : starEach [e2] (envX cn (fnSc ns mo) c.L a ccd cl) = [(false, eval e2 (envX cn (fnSc ns mo) c.L a ccd cl))]) :
    wpAny (model PySem.Challenge.rw_pq1024_01.row.prog w) c.A (eval (.Call (.Name x px) [e1, e2] [] pos) (envX cn (fnSc ns mo) c.L a ccd cl)) Q E s :=
  Call_ (ev_bi S g e hv hn hx (PyProof.Rows.callWith_type1 (args_cons (wpAny_mono h (fun v s1 h1 => args_cons (wpAny_mono h1 (fun v2 s2 h2 => args_nil h2) fun _ _ e => e) he2) fun _ _ e => e) he1) he1 (by rw [he2]; rfl)))
end
theorem isLC_k (v : T) : isLC v = ([7, 0] : List Int).any (· == v.kind) := by
  cases v <;> rfl
theorem asg_pad : ∀ (ns : List (Str × NameKind)) (vs : List (Option Value)) (k : Nat), asg ns vs = asg ns (vs ++ List.replicate k none)
  | [], _, _ => by funext y; cases ‹List (Option Value)› <;> simp [asg]
  | n :: ns, [], 0 => rfl
  | n :: ns, [], k + 1 => by
    funext y
    have := congrFun (asg_pad ns [] k) y
    rw [List.nil_append, asg_nil] at this
    rw [List.nil_append, List.replicate_succ, asg_nil, asg, ← this]
    split <;> rfl
  | n :: ns, v :: vs, k => by
    funext y
    rw [List.cons_append, asg, asg, ← asg_pad ns vs k]
theorem St.pad {w : World} {c : Cx} {ns : List (Str × NameKind)} {vs : List (Option Value)} {own P : Led} {s : Shared} (k : Nat) (S : St w c (asg ns vs) own P s) : St w c (asg ns (vs ++ List.replicate k none)) own P s := by
  rw [← asg_pad]; exact S
theorem natbeq (a b : Nat) : (((a : Nat) : Int) == ((b : Nat) : Int)) = (a == b) := by
  rw [Bool.eq_iff_iff, beq_iff_eq, beq_iff_eq]; exact Int.ofNat_inj
theorem lateOf_snoc {a : List Int} {b : List T} {n : Int} {t : T} (h : a.length = b.length) : lateOf (a ++ [n]) (b ++ [t]) = lateOf a b ++ (if t.isUn then [n] else []) := by
  unfold lateOf
  rw [List.zip_append h, List.filter_append, List.map_append]
  cases hu : t.isUn <;> simp [hu]
def isLet : T → Bool
  | .call (.lam _ ps _) xs => ps.length == xs.length
  | _ => false
local macro_rules | `(tactic| k_mem) => `(tactic| with_reducible first | exact List.mem_cons_self | assumption | (refine List.mem_cons_of_mem _ ?_; k_mem))
local macro_rules | `(tactic| k_places) => `(tactic| with_reducible first | exact fun _ h => h | assumption | (intro p hp; k_mem))
local macro_rules | `(tactic| kat_tups) => `(tactic| with_reducible first | exact List.mem_cons_self | (refine List.mem_cons_of_mem _ ?_; kat_tups))
local macro_rules | `(tactic| keq_rows) => `(tactic| with_reducible first | refine LocQ.here ?_ | (refine LocQ.there ?_; keq_rows))
local macro_rules | `(tactic| keq_hits) => `(tactic| with_reducible first | refine SetQ.here ?_ | refine SetQ.hereN ?_ | (refine SetQ.there ?_; keq_hits) | (refine SetQ.thereN ?_; keq_hits))
local macro_rules | `(tactic| fold_lay) => `(tactic| (refine enter (K := hd.heap_39 _) rfl (by assumption) (by k_is) (by k_is) (by omega) (by exact BindsTo.of_eq rfl) (by exact rfl) (by kernel_rfl) ?_ (by assumption)))
local macro_rules | `(tactic| k_allIn) => `(tactic| with_reducible first | exact sl0 | exact sl1 | exact sl2 | exact sl3 | exact sl4)
local macro_rules | `(tactic| k_ownIn) => `(tactic| with_reducible first | exact tl0 | exact tl1 | exact tl2 | exact tl3 | exact Nat.le_trans (Nat.le_of_eq (IntsAre.length (by assumption))) (by assumption))
local macro_rules | `(tactic| k_subL) => `(tactic| with_reducible first | exact g_CONST _ | exact g_LOCAL _ | exact g_GLOBAL _ | exact g_SET_LOCAL _ | exact g_SET_GLOBAL _ | exact g_DEFINE _ | exact g_LAMBDA _ | exact g_CALL _ | exact g_SEQ _ | exact g_PRIM _ | exact g_FIX _ | exact g_TOP _ | exact g_UNASSIGNED _ | exact g_Const _ | exact g_Local _ | exact g_Global _ | exact g_SetLocal _ | exact g_Lambda _ | exact g_Call _ | exact g_Seq _ | exact g_Fix _ | exact g_are_same_list _ | exact g_rebuilt _ | exact g_let_node _ | exact g_is_let _ | exact g_seq_of _ | exact g_Facts _ | exact g_count_in _ | exact g_note_node _ | exact g_facts_of _ | exact g_Pair _ | exact g_is_unassigned _ | exact g_begun_late _ | exact g_Fixing _ | exact g_fixed _ | exact g_law_draw _ | exact g_law_deck_of _ | exact g_law_one _ | exact g_law_new _ | exact g_law_told _ | exact g_law_value_of _ | exact g_law_late _ | exact g_law_times_set _ | exact g_law_due_of _ | exact kp_Const _ | exact kp_Local _ | exact kp_Global _ | exact kp_SetLocal _ | exact kp_Lambda _ | exact kp_Call _ | exact kp_Seq _ | exact kp_Fix _ | exact kp_are_same_list _ | exact kp_rebuilt _ | exact kp_let_node _ | exact kp_is_let _ | exact kp_seq_of _ | exact kp_Facts _ | exact kp_count_in _ | exact kp_note_node _ | exact kp_facts_of _ | exact kp_Pair _ | exact kp_is_unassigned _ | exact kp_begun_late _ | exact kp_Fixing _ | exact kp_fixed _ | exact kp_law_draw _ | exact kp_law_deck_of _ | exact kp_law_one _ | exact kp_law_new _ | exact kp_law_told _ | exact kp_law_value_of _ | exact kp_law_late _ | exact kp_law_times_set _ | exact kp_law_due_of _ | exact gn_len _ | exact gn_range _ | exact gn_tuple _ | exact gn_isinstance _ | exact gn_int _ | exact gn_bool _ | exact gn_repr _ | exact gn_list _ | exact gn_zip _ | exact gn_abs _ | exact gn_sum _ | exact bt_len | exact bt_isinstance | exact bt_repr | exact bt_abs | exact bt_sum | exact bt_ne_len | exact ne_isinstance | exact ne_repr | exact bt_ne_abs | exact bt_ne_sum | exact bt_ne_range | exact bt_ne_tuple | exact bt_ne_list | exact bt_ne_zip | exact ne_int | exact bt_range | exact bt_tuple | exact bt_list | exact bt_zip | exact bt_int)
local macro_rules | `(tactic| k_clsL) => `(tactic| with_reducible first
  | ((show wpAny _ _ (eval (Expr.Name _ _) _) _ _ _); first
    | (refine ev_loc (by assumption) (by assumption) ?_; keq_rows)
    | refine ev_glob (by assumption) (by assumption) (by k_subL) (by kat_tups) ?_
    | refine ev_cell (by assumption) (by assumption) (by k_dflt rfl) (by k_mem) (by assumption) (by kat_tups) ?_
    | refine ev_bi (by assumption) (by assumption) (by k_subL) (by k_subL) (by k_subL) (by kat_tups) ?_)
  | ((show wpAny _ _ (eval (Expr.Constant _ _ _) _) _ _ _); first
    | (refine ev_int (by assumption) ?_; intro s' tk' S')
    | (refine ev_str (by assumption) ?_; intro s' tk' S')
    | refine PyProof.Rows.Constant_bool ?_)
  | ((show wpAny _ _ (eval (Expr.Attribute _ _ _) _) _ _ _); refine Attribute_any_ ?_ (by k_dflt rfl))
  | ((show wpAny _ _ (eval (Expr.Call (Expr.Name _ _) [_] [] _) _) _ _ _); first
    | refine call1 (by assumption) (by assumption) (by k_subL) (by k_subL) (by kat_tups) ?_ (by k_dflt rfl)
    | refine callB1 (by assumption) (by assumption) (by k_subL) (by k_subL) (by k_subL) (by kat_tups) ?_ (by k_dflt rfl)
    | refine callT (by assumption) (by assumption) (by k_subL) (by k_subL) (by k_subL) (by kat_tups) ?_ (by k_dflt rfl))
  | ((show wpAny _ _ (eval (Expr.Call (Expr.Name _ _) [_, _] [] _) _) _ _ _); first
    | refine call2 (by assumption) (by assumption) (by k_subL) (by k_subL) (by kat_tups) ?_ (by k_dflt rfl) (by k_dflt rfl)
    | refine callB2 (by assumption) (by assumption) (by k_subL) (by k_subL) (by k_subL) (by kat_tups) ?_ (by k_dflt rfl) (by k_dflt rfl)
    | refine callT2 (by assumption) (by assumption) (by k_subL) (by k_subL) (by k_subL) (by kat_tups) ?_ (by k_dflt rfl) (by k_dflt rfl))
  | ((show wpAny _ _ (eval (Expr.Call (Expr.Name _ _) [_, _, _] [] _) _) _ _ _); refine call3 (by assumption) (by assumption) (by k_subL) (by k_subL) (by kat_tups) ?_ (by k_dflt rfl) (by k_dflt rfl) (by k_dflt rfl))
  | ((show wpAny _ _ (eval (Expr.Call (Expr.Name _ _) [_, _, _, _] [] _) _) _ _ _); refine call4 (by assumption) (by assumption) (by k_subL) (by k_subL) (by kat_tups) ?_ (by k_dflt rfl) (by k_dflt rfl) (by k_dflt rfl) (by k_dflt rfl))
  | ((show wpAny _ _ (eval (Expr.Call (Expr.Attribute _ _ _) _ [] _) _) _ _ _); refine MethodCall_ ?_ (by k_dflt rfl))
  | ((show wpAny _ _ (eval (Expr.BoolOp _ _ _) _) _ _ _); first | refine BoolOp_and ?_ | refine BoolOp_or ?_ | refine BoolOp_one ?_)
  | ((show wpAny _ _ (eval (Expr.Compare _ _ _ _) _) _ _ _); refine wpAny_Compare1 ?_ (by k_dflt rfl))
  | ((show wpAny _ _ (eval (Expr.UnaryOp _ _ _) _) _ _ _); refine UnaryOp_ ?_)
  | ((show wpAny _ _ (eval (Expr.Subscript _ _ _) _) _ _ _); refine Subscript_ ?_)
  | ((show wpAny _ _ (eval (Expr.Tuple _ _ _) _) _ _ _); refine Tuple_ ?_)
  | ((show wpAny _ _ (eval (Expr.List _ _ ) _) _ _ _); refine List_ ?_)
  | ((show wpAny _ _ (eval (Expr.BinOp _ _ _ _) _) _ _ _); refine wpAny_BinOp ?_)
  | ((show wpAny _ _ (eval (Expr.Slice _ _ _ _) _) _ _ _); refine wpAny_Slice ?_)
  | ((show wpAny _ _ (eval (Expr.IfExp _ _ _ _) _) _ _ _); refine IfExp_ ?_)
  | ((show wpAny _ _ (exec _ _) _ _ _); first
    | refine wpAny_If ?_
    | refine wpAny_Assign_Name ?_ (by k_dflt rfl)
    | refine wpAny_Return_some ?_
    | refine wpAny_Assign_Subscript ?_ (by k_dflt rfl)
    | refine wpAny_Expr_any ?_ (by k_dflt rfl) (by k_dflt rfl)
    | refine plainObj_wpAny_Assign_Attribute ?_ (by k_dflt rfl))
  | ((show wpAny _ _ (compareOp _ _ _) _ _ _); first
    | refine eq_int_ff (by k_dflt rfl) ?_
    | refine eq_int_tt (by k_dflt rfl) ?_
    | refine in_tup_ff (by assumption) (by k_mem) (.cons _ _ (.cons _ _ .nil)) (by k_dflt rfl) ?_
    | refine in_tup_tt (by assumption) (by k_mem) (.cons _ _ (.cons _ _ .nil)) (by k_dflt rfl) ?_
    | refine wpAny_is_ref_self ?_
    | refine is_int_ref ?_
    | refine PySem.P.lt_int ?_
    | refine PySem.P.gt_int ?_
    | refine eq_int ?_
    | refine ne_int_ff (by k_dflt rfl) ?_
    | refine ne_int_tt (by k_dflt rfl) ?_)
  | ((show wpAny _ _ (getAttr _ _ _) _ _ _); first
    | (refine at_kind (by assumption) (by assumption) (by k_places) (by first | assumption | exact rfl) ?_; intro s' tk' S')
    | (refine at_setl_value (by assumption) (by assumption) (by k_places) ?_; intro s' v' S' hv')
    | (refine at_call_operator (by assumption) (by assumption) (by k_places) ?_; intro s' v' S' hv')
    | (refine at_call_operands (by assumption) (by assumption) (by k_places) ?_; intro s' l' vs' e' S' hl' hvs')
    | (refine at_seq_items (by assumption) (by assumption) (by k_places) ?_; intro s' l' vs' e' S' hl' hvs')
    | (refine at_lam_body (by assumption) (by assumption) (by k_places) ?_; intro s' v' S' hv')
    | (refine at_setl_number (by assumption) (by assumption) (by k_places) ?_; intro s' tk' S')
    | (refine at_cint (by assumption) (by assumption) (by k_places) ?_; intro s' tk' S')
    | (refine at_cun (by assumption) (by assumption) (by k_places) ?_; intro s' S')
    | (refine at_loc (by assumption) (by assumption) (by k_places) ?_; intro s' tk' S')
    | (refine at_glob (by assumption) (by assumption) (by k_places) ?_; intro s' tk' S')
    | (refine at_lam_label (by assumption) (by assumption) (by k_places) ?_; intro s' tk' S')
    | (refine at_lam_rest (by assumption) (by assumption) (by k_places) ?_; intro s' tk' S')
    | (refine at_lam_params (by assumption) (by assumption) (by k_places) ?_; intro s' pl' vs' e' S' hp' hi')
    | (refine at_fix_numbers (by assumption) (by assumption) (by k_places) ?_; intro s' pl' vs' e' S' hp' hi'))
  | ((show wpAny _ _ (getMethod _ _ _) _ _ _); first
    | refine lmeth (by assumption) (by k_mem) PySem.F.slot_list_pop PySem.F.type_list_pop ?_
    | refine lmeth (by assumption) (by k_mem) PySem.F.slot_list_append PySem.F.type_list_append ?_
    | refine lmeth (by assumption) (by k_mem) PySem.F.slot_list_insert PySem.F.type_list_insert ?_)
  | ((show wpAny _ _ (callWith _ _ _ _ _) _ _ _); first
    | refine callWith_method1 ?_ (by k_dflt rfl) (by k_dflt rfl)
    | refine callWith_method0 ?_)
  | ((show wpAny _ _ (call _ _) _ _ _); first
    | (refine tuple_of (by assumption) (by k_mem) (by k_ownIn) ?_; intro D' s' S')
    | (refine isi_int (by assumption) (by k_mem) ?_; intro s' S')
    | (refine isi_un (by assumption) (by k_mem) ?_; intro s' S')
    | (refine isi_pair (by assumption) ?_; intro s' S')
    | (refine rp_int (by assumption) ?_; intro s' tk' S'))
  | ((show wpAny _ _ (PySem.isTrue _ _ _) _ _ _); first
    | refine wpAny_isTrue_Compare1 ?_ (by k_dflt rfl)
    | refine isTrue_and ?_
    | refine isTrue_and_nil ?_
    | refine isTrue_or ?_
    | refine isTrue_or_nil ?_
    | refine isTrue_not ?_
    | refine isTrue_plain ?_ (by k_dflt rfl))
  | ((show wpAny _ _ (binaryOp _ _ _) _ _ _); first
    | (refine addS (by assumption) ?_; intro s' tk' S')
    | (refine subS (by assumption) ?_; intro s' tk' S'))
  | ((show wpAny _ _ (unaryOp _ _) _ _ _); refine negS (by assumption) ?_; intro s' tk' S')
  | ((show wpAny _ _ (subscriptTail _ _ _ _) _ _ _); first
    | refine own0 (by assumption) (by decide) (by decide) (by k_dflt rfl) ?_ (by k_dflt rfl))
  | ((show wpAny _ _ (PySem.setItem _ _ _) _ _ _); first
    | (refine set0 (by assumption) ?_; intro s' S')
    | (refine set1 (by assumption) ?_; intro s' S'))
  | ((show _ ∧ wpAny _ _ _ _ _ _); refine And.intro (St.kin (by assumption)) ?_)
  | ((show wpAny _ _ (PySem.evalPart _ _) _ _ _); first | refine evalPart_none_step ?_ | refine evalPart_some_step ?_)
  | refine wpAny_execs_cons ?_
  | refine sp1 ?_ (by k_dflt rfl)
  | refine sp0 ?_
  | refine wpAny_truthy_bool ?_
  | refine ite_ff ?_
  | refine ite_tt ?_
  | refine ite_dt (by k_dflt rfl) ?_
  | refine ite_df (by k_dflt rfl) ?_
  | (refine st_loc (by assumption) (by assumption) ?_; keq_hits; intro s' S')
  | (refine nl_flag (by assumption) (by assumption) ?_ (by k_allIn); intro l' s' S')
  | (refine nl (by assumption) ?_ (by k_allIn); intro l' s' S')
  | (refine nt (by assumption) ?_ (by k_allIn); intro l' s' S')
  | refine wpAny_execs_nil ?_
  )
local macro_rules | `(tactic| k_offL) => `(tactic| repeat k_clsL)

section
variable {w : World} {P : Led}
theorem is_un {a : Addr} {t : T} (h : Nd w P a t) : Pure w 2 P (call (.ref 456) [.ref a]) fun _ r => r = .bool t.isUn := by
  intro c m own s Q E S hdp hu ret
  have X := S.X
  refine wpAny_call ?_
  fold_lay
  clear ret S
  intro c' s' gN hd' hu' S'
  dsimp only [List.map] at S'
  cases t
  all_goals k_offL
  all_goals exact ⟨_, [], [], P, St.sub (by assumption) (by k_places), fun _ h => h, (by rfl), rfl⟩
theorem is_let {a : Addr} {t : T} (h : Nd w P a t) (hz : t.size ≤ 4000) : Pure w 2 P (call (.ref 313) [.ref a]) fun _ r => r = .bool (isLet t) := by
  intro c m own s Q E S hdp hu ret
  have X := S.X
  refine wpAny_call ?_
  fold_lay
  clear ret S
  intro c' s' gN hd' hu' S'
  dsimp only [List.map] at S'
  cases t
  case call f xs =>
    cases f
    case lam l ps b =>
      have h1 : ps.length ≤ 1000000 := by simp only [T.size] at hz; omega
      have h2 : xs.length ≤ 1000000 := by have := len_sizes xs; simp only [T.size] at hz; omega
      clear hz
      k_offL
      refine len_P (by assumption) (by assumption) (by rw [IntsAre.length (by assumption)]; exact h1) ?_
      intro s1 tk1 S1
      k_offL
      refine len_P (by assumption) (by assumption) (by rw [Nds.length (by assumption)]; exact h2) ?_
      intro s2 tk2 S2
      k_offL
      refine ⟨_, [], [], P, S2, fun _ h => h, (by rfl), ?_⟩
      show Value.bool _ = Value.bool (ps.length == xs.length)
      rw [IntsAre.length (ns := ps) (by assumption), Nds.length (ts := xs) (by assumption), natbeq]
    all_goals k_offL
    all_goals exact ⟨_, [], [], P, St.sub (by assumption) (by k_places), fun _ h => h, (by rfl), rfl⟩
  all_goals k_offL
  all_goals exact ⟨_, [], [], P, St.sub (by assumption) (by k_places), fun _ h => h, (by rfl), rfl⟩
theorem is_early {a x : Addr} {t : T} (h : Nd w P a t) : Pure w 2 P (call (.ref 484) [.ref x, .ref a]) fun _ r => r = .bool (isE t) := by
  intro c m own s Q E S hdp hu ret
  have X := S.X
  refine wpAny_call ?_
  fold_lay
  clear ret S
  intro c' s' gN hd' hu' S'
  dsimp only [List.map] at S'
  cases t
  case setl n v =>
    k_offL
    refine in_tup (by assumption) (by k_mem) (.cons _ _ (.cons _ _ .nil)) ?_
    exact ⟨_, [], [], P, St.sub (by assumption) (by k_places), fun _ h => h, (by rfl), by rw [← isLC_k]; rfl⟩
  all_goals k_offL
  all_goals exact ⟨_, [], [], P, St.sub (by assumption) (by k_places), fun _ h => h, (by rfl), rfl⟩
theorem let_node {l : Int} {k1 : Tok} {pl ol : Addr} {vs us : List Value} {e1 e2 : Nat} {ps : List Int} {xs : List T} {v : Value} {t : T} (h1 : (pl, listOf vs.toArray e1) ∈ P) (hi : IntsAre vs ps) (h2 : (ol, listOf us.toArray e2) ∈ P) (hn : Nds w P us xs) (hv : TR w P v t) :
    Pure w 6 P (call (.ref 306) [.int l k1, .ref pl, .ref ol, v]) fun P' r => TR w P' r (.call (.lam l ps t) xs) := by
  intro c m own s Q E S hdp hu ret
  have X := S.X
  refine wpAny_call ?_
  fold_lay
  clear ret S
  intro c' s' gN hd' hu' S'
  dsimp only [List.map] at S'
  have d3 : c'.A.depth + 3 < recursionLimit := by omega
  have u3 : c'.A.units + 8 * 3 < cLine := by omega
  k_offL
  refine useP (mk_lam h1 hi hv) (by assumption) d3 u3 ?_
  intro w5 P7 s19 S20 hs7 hT5
  k_offL
  refine useP (mk_call hT5 (hs7 _ h2) (hn.mono hs7)) (by assumption) d3 u3 ?_
  intro w6 P8 s20 S21 hs8 hT6
  exact ⟨_, [], [], P8, S21, fun p hp => hs8 _ (hs7 _ hp), (by rfl), hT6⟩
theorem seq_of {l : Addr} {vs : List Value} {e : Nat} {ts : List T} (h1 : (l, listOf vs.toArray e) ∈ P) (hn : Nds w P vs ts) (hz : ts.length ≤ 1000000) :
    Pure w 6 P (call (.ref 320) [.ref l]) fun P' r => TR w P' r (seqOf ts) := by
  intro c m own s Q E S hdp hu ret
  have X := S.X
  refine wpAny_call ?_
  fold_lay
  clear ret S
  intro c' s' gN hd' hu' S'
  dsimp only [List.map] at S'
  have d3 : c'.A.depth + 3 < recursionLimit := by omega
  have u3 : c'.A.units + 8 * 3 < cLine := by omega
  have hvl := hn.length
  k_offL
  refine len_P (by assumption) (by assumption) (by rw [hvl]; exact hz) ?_
  intro s1 tk1 S1
  k_offL
  refine ifB (fun hb => ?_) (fun hb => ?_)
  · have hb1 : vs.length = 1 := by have := eq_of_beq hb; omega
    obtain ⟨v, rfl⟩ := List.length_eq_one_iff.mp hb1
    cases hn with
    | cons ha hr =>
      cases hr
      k_offL
      refine li_item (St.isListP (by assumption) h1) (by decide) (by decide) rfl ?_ (by k_dflt rfl)
      exact ⟨_, [], [], P, by assumption, fun _ h => h, (by rfl), _, rfl, ha⟩
  · have hb1 : ¬ vs.length = 1 := fun e => by rw [e] at hb; exact absurd hb (by decide)
    k_offL
    refine useP (mk_seq h1 hn) (by assumption) d3 u3 ?_
    intro w6 P8 s20 S21 hs8 hT6
    refine ⟨_, [], [], P8, S21, hs8, (by rfl), ?_⟩
    have e : seqOf ts = .seq ts := by
      rw [hvl] at hb1
      match ts, hb1 with
      | [], _ => rfl
      | [_], h => exact absurd rfl h
      | _ :: _ :: _, _ => rfl
    rw [e]; exact hT6
end
theorem zip_min {α β : Type} : ∀ (a : List α) (b : List β), (a.take (min a.length b.length)).zip (b.take (min a.length b.length)) = a.zip b
  | [], b => by simp
  | x :: a, [] => by simp
  | x :: a, y :: b => by
    have := zip_min a b
    rw [List.length_cons, List.length_cons, Nat.succ_min_succ, List.take_succ_cons, List.take_succ_cons, List.zip_cons_cons, this, List.zip_cons_cons]

section
variable {w : World} {P : Led}
/-- the dict of those that begin late -/
def DK (w : World) (P : Led) (d : Addr) (late : List Int) : Prop := ∃ o kv, (d, o) ∈ P ∧ o.IsDictOf (IK w) kv ∧ (d == sysModules) = false ∧ ∀ x, (valueAt kv x).isSome = late.contains x
theorem begun_late {a : Addr} {l : Int} {ps : List Int} {b : T} {xs : List T} (h : Nd w P a (.call (.lam l ps b) xs)) (hp : ps.length ≤ 4000) : Pure w 6 P (call (.ref 463) [.ref a]) fun P' r => ∃ d, r = .ref d ∧ DK w P' d (lateOf ps xs) := by
  intro c m own s Q E S hdp hu ret
  have X := S.X
  refine wpAny_call ?_
  fold_lay
  clear ret S
  intro c' s' gN hd' hu' S'
  dsimp only [List.map] at S'
  have d3 : c'.A.depth + 3 < recursionLimit := by omega
  have u3 : c'.A.units + 8 * 3 < cLine := by omega
  k_offL
  refine dnew (by assumption) ?_
  intro d o s1 hd0 hlo S1
  k_offL
  refine For_ (by assumption) ?_ (by k_dflt exact fun _ => rfl)
  k_offL
  rename_i l1 us1 e1 _ hl1 hi1 _ l2 us2 e2 _ hl2 hn2
  have hu1 := hi1.length
  have hu2 := hn2.length
  refine forZ (vals := [some (.ref a), some (.ref d), none, none]) (St.pad 2 (vs := [some (.ref a), some (.ref d)]) (by assumption)) gN hl1 hl2 (fun i vals₁ own₁ P₁ => ∃ v1 v2 o kv, vals₁ = [some (.ref a), some (.ref d), v1, v2] ∧ own₁ = [(d, o)] ∧ o.IsDictOf (IK w) kv ∧ (∀ p ∈ P, p ∈ P₁) ∧ kv.length ≤ i ∧ ∀ x, (valueAt kv x).isSome = (lateOf (ps.take i) (xs.take i)).contains x)
    ⟨none, none, o, [], rfl, rfl, hd0, fun _ h => h, Nat.le_refl _, fun x => rfl⟩ ?_ ?_
  · rintro i u v vals₁ own₁ P₁ P₁' W s₁ hi hu hv ⟨v1, v2, o, kv, rfl, rfl, hd, hP1, hkl, hkv⟩ S hs
    obtain ⟨n, tk, rfl, hn⟩ := hi1.at _ _ hu
    obtain ⟨xa, t, rfl, ht, hNd⟩ := hn2.get' hv
    have hNd' := hNd.mono fun p hp => hs _ (hP1 p hp)
    keq_hits
    keq_hits
    intro s2 S2
    have hin : i < ps.length := by omega
    have hinx : i < xs.length := by omega
    have htk1 : ps.take (i + 1) = ps.take i ++ [n] := by rw [List.take_add_one, hn]; rfl
    have htk2 : xs.take (i + 1) = xs.take i ++ [t] := by rw [List.take_add_one, ht]; rfl
    have hlt : lateOf (ps.take (i + 1)) (xs.take (i + 1)) = lateOf (ps.take i) (xs.take i) ++ (if t.isUn then [n] else []) := by
      rw [htk1, htk2, lateOf_snoc (by rw [List.length_take, List.length_take]; omega)]
    k_offL
    refine useP (is_un hNd') (by assumption) (by omega) (by omega) ?_
    rintro r P3 s3 S3 hs3 rfl
    k_offL
    refine ifB (fun hb => ?_) (fun hb => ?_)
    · k_offL
      refine dset (cells := [(d, o)]) (l := [(d, kv)]) (i := 0) (.cons hd hlo .nil) (by assumption) rfl (by omega) ?_
      intro cells' s4 hD' S4
      cases hD' with
      | cons hd' _ r =>
        cases r
        k_offL
        refine ⟨_, [_], P3, S4, hs3, _, _, _, _, rfl, rfl, hd', fun p hp => hs3 _ (hs _ (hP1 _ hp)), Nat.le_trans (len_stored _ _ _) (by omega), fun x => ?_⟩
        rw [hlt, hb, if_pos rfl, valueAt_stored]
        by_cases hx : x = n
        · subst hx; simp
        · rw [if_neg hx, hkv]; simp [hx]
    · k_offL
      refine ⟨_, [_], P3, by assumption, hs3, _, _, _, _, rfl, rfl, hd, fun p hp => hs3 _ (hs _ (hP1 _ hp)), by omega, fun x => ?_⟩
      rw [hlt, hb, if_neg (by decide), List.append_nil]
      exact hkv x
  · rintro vals' own' P' s3 S3 ⟨v1, v2, o, kv, rfl, rfl, hd, hP1, hkl, hkv⟩
    dsimp only
    k_offL
    have hmin : min us1.length us2.length = min ps.length xs.length := by rw [hu1, hu2]
    rw [hmin] at hkv
    refine ⟨_, [], [], _, S3.settle, fun p hp => .tail _ (hP1 p hp), (by rfl), d, rfl, o, kv, .head _, hd, hlo, ?_⟩
    intro x
    rw [hkv x]
    unfold lateOf
    rw [zip_min]
end
section
variable {w : World} {c : Cx} {m : Str → Option Value} {own P : Led} {s : Shared} {E : Value → Shared → Prop} {Q : Value → Shared → Prop}
theorem pick_from {xs : List Value} {a : Int} (h : 0 ≤ a) : kms_pick xs (some a) none = xs.drop a.toNat := by
  unfold kms_pick
  show ((xs.drop (if a < 0 then xs.length - (-a).toNat else min a.toNat xs.length)).take (xs.length - (if a < 0 then xs.length - (-a).toNat else min a.toNat xs.length))) = _
  rw [if_neg (by omega)]
  rw [List.take_of_length_le (by rw [List.length_drop]; exact Nat.le_refl _), kmk_drop_min]
theorem pick_to {xs : List Value} {a : Int} (h : 0 ≤ a) : kms_pick xs none (some a) = xs.take a.toNat := by
  unfold kms_pick
  show ((xs.drop 0).take ((if a < 0 then xs.length - (-a).toNat else min a.toNat xs.length) - 0)) = _
  rw [if_neg (by omega), Nat.sub_zero, List.drop_zero, kmk_take_min]
theorem slice_up {value slice : Expr} {l : Addr} {xs zs : List Value} {vl vu : Value} {lo hi : Option Int} (S : St w c m own P s) (hl : s.heap.IsList l xs.toArray) (pl : IsPart vl lo) (pu : IsPart vu hi) (e : kms_pick xs lo hi = zs) (hz : xs.length ≤ 1000000)
    (h : ∀ D s', St w c m own ((D, listOf zs.toArray 0) :: P) s' → Q (.ref D) s')
    (hs : subscripted slice false (.ref l) (.ref s.heap.objs.size) = operate [.ref s.heap.objs.size, .ref l] (getItem (.ref l) (.ref s.heap.objs.size))) (ht : ∀ r, letTemporaryGo value (.ref l) r = pure ()) :
    wpAny (model PySem.Challenge.rw_pq1024_01.row.prog w) c.A (subscriptTail value slice (.ref l) (.ref s.heap.objs.size)) Q E { s with heap := s.heap.push { cls := .type "slice", data := .fields #[vl, vu, .none] } } :=
  kms_slice_lit S.F S.N hl pl pu e (fun D h' F' N' lt => h D _ (S.addP (tk := s.toks) F' N' lt)) hs ht (by rw [List.size_toArray]; exact fits_le hz)
theorem slice_rev {value slice : Expr} {l : Addr} {xs : List Value} {t : Tok} {ops : List Value} (S : St w c m own P s) (hl : s.heap.IsList l xs.toArray) (hz : xs.length ≤ 1000000)
    (h : ∀ D s', St w c m own ((D, listOf xs.reverse.toArray 0) :: P) s' → Q (.ref D) s')
    (hs : subscripted slice false (.ref l) (.ref s.heap.objs.size) = operate ops (getItem (.ref l) (.ref s.heap.objs.size))) (ht : ∀ r, letTemporaryGo value (.ref l) r = pure ()) :
    wpAny (model PySem.Challenge.rw_pq1024_01.row.prog w) c.A (subscriptTail value slice (.ref l) (.ref s.heap.objs.size)) Q E { s with heap := s.heap.push { cls := .type "slice", data := .fields #[.none, .none, .int (-1) t] } } :=
  krv_lit S.F S.N hl (.int _ _) rfl (fun D h' F' N' lt => h D _ (S.addP (tk := s.toks) F' N' lt)) hs ht (by rw [List.size_toArray]; exact fits_le hz)
/-- a method of an own class, by its object -/
theorem meth1 {x C d f : Addr} {es : List DictEntry} {n : Nat} {name : Str} {pl : Sem Bool} {pos : Pos} {env : Env} {e1 : Expr} (S : St w c m own P s) (hx : (x, instObj C d) ∈ P) (hd' : (d, dictOf es n) ∈ P) (hg : plainGet (hd.heap_39 w.params) C name = true) (hf : findIn (hd.heap_39 w.params) (.ref C) name = some (some (.ref f))) (ht : isFn (hd.heap_39 w.params) (.ref f) = true) (hl : getL name es = some none) (hk : keepIn (hd.heap_39 w.params) (.ref f) = true)
    (h : wpAny (model PySem.Challenge.rw_pq1024_01.row.prog w) c.A (eval e1 env) (fun v s1 => (hd.heap_39 w.params).In s1.heap ∧ wpAny (model PySem.Challenge.rw_pq1024_01.row.prog w) c.A (call (.ref f) [.ref x, v]) Q E s1) E s)
    (he : starEach [e1] env = [(false, eval e1 env)]) :
    wpAny (model PySem.Challenge.rw_pq1024_01.row.prog w) c.A (getMethod (.ref x) name pl) (fun fx s₂ => wpAny (model PySem.Challenge.rw_pq1024_01.row.prog w) c.A (callWith pos fx.1 fx.2 (backTo pos (starEach [e1] env)) []) Q E s₂) E s :=
  method_inst S.F S.X (inst_at S hx hd') hg hf ht hl (callWith_K S.X hk (args_cons (wpAny_mono h (fun v s1 h1 => args_nil h1) fun _ _ e => e) he) he rfl)
theorem meth2 {x C d f : Addr} {es : List DictEntry} {n : Nat} {name : Str} {pl : Sem Bool} {pos : Pos} {env : Env} {e1 e2 : Expr} (S : St w c m own P s) (hx : (x, instObj C d) ∈ P) (hd' : (d, dictOf es n) ∈ P) (hg : plainGet (hd.heap_39 w.params) C name = true) (hf : findIn (hd.heap_39 w.params) (.ref C) name = some (some (.ref f))) (ht : isFn (hd.heap_39 w.params) (.ref f) = true) (hl : getL name es = some none) (hk : keepIn (hd.heap_39 w.params) (.ref f) = true)
    (h : wpAny (model PySem.Challenge.rw_pq1024_01.row.prog w) c.A (eval e1 env) (fun v s1 => wpAny (model PySem.Challenge.rw_pq1024_01.row.prog w) c.A (eval e2 env) (fun v2 s2 => (hd.heap_39 w.params).In s2.heap ∧ wpAny (model PySem.Challenge.rw_pq1024_01.row.prog w) c.A (call (.ref f) [.ref x, v, v2]) Q E s2) E s1) E s)
    (he : starEach [e1, e2] env = (false, eval e1 env) :: starEach [e2] env) (he2 : starEach [e2] env = [(false, eval e2 env)]) :
    wpAny (model PySem.Challenge.rw_pq1024_01.row.prog w) c.A (getMethod (.ref x) name pl) (fun fx s₂ => wpAny (model PySem.Challenge.rw_pq1024_01.row.prog w) c.A (callWith pos fx.1 fx.2 (backTo pos (starEach [e1, e2] env)) []) Q E s₂) E s :=
  method_inst S.F S.X (inst_at S hx hd') hg hf ht hl (callWith_K S.X hk (args_cons (wpAny_mono h (fun v s1 h1 => args_cons (wpAny_mono h1 (fun v2 s2 h2 => args_nil h2) fun _ _ e => e) he2) fun _ _ e => e) he) he (by rw [he2]; rfl))
theorem meth3 {x C d f : Addr} {es : List DictEntry} {n : Nat} {name : Str} {pl : Sem Bool} {pos : Pos} {env : Env} {e1 e2 e3 : Expr} (S : St w c m own P s) (hx : (x, instObj C d) ∈ P) (hd' : (d, dictOf es n) ∈ P) (hg : plainGet (hd.heap_39 w.params) C name = true) (hf : findIn (hd.heap_39 w.params) (.ref C) name = some (some (.ref f))) (ht : isFn (hd.heap_39 w.params) (.ref f) = true) (hl : getL name es = some none) (hk : keepIn (hd.heap_39 w.params) (.ref f) = true)
    (h : wpAny (model PySem.Challenge.rw_pq1024_01.row.prog w) c.A (eval e1 env) (fun v s1 => wpAny (model PySem.Challenge.rw_pq1024_01.row.prog w) c.A (eval e2 env) (fun v2 s2 => wpAny (model PySem.Challenge.rw_pq1024_01.row.prog w) c.A (eval e3 env) (fun v3 s3 => (hd.heap_39 w.params).In s3.heap ∧ wpAny (model PySem.Challenge.rw_pq1024_01.row.prog w) c.A (call (.ref f) [.ref x, v, v2, v3]) Q E s3) E s2) E s1) E s)
    (he : starEach [e1, e2, e3] env = (false, eval e1 env) :: starEach [e2, e3] env) (he2 : starEach [e2, e3] env = (false, eval e2 env) :: starEach [e3] env) (he3 : starEach [e3] env = [(false, eval e3 env)]) :
    wpAny (model PySem.Challenge.rw_pq1024_01.row.prog w) c.A (getMethod (.ref x) name pl) (fun fx s₂ => wpAny (model PySem.Challenge.rw_pq1024_01.row.prog w) c.A (callWith pos fx.1 fx.2 (backTo pos (starEach [e1, e2, e3] env)) []) Q E s₂) E s :=
  method_inst S.F S.X (inst_at S hx hd') hg hf ht hl (callWith_K S.X hk (args_cons (wpAny_mono h (fun v s1 h1 => args_cons (wpAny_mono h1 (fun v2 s2 h2 => args_cons (wpAny_mono h2 (fun v3 s3 h3 => args_nil h3) fun _ _ e => e) he3) fun _ _ e => e) he2) fun _ _ e => e) he) he (by rw [he2, he3]; rfl))
theorem dk_in {d : Addr} {late : List Int} {k : Int} {t : Tok} {P₀ : Led} (S : St w c m own P s) (h : DK w P₀ d late) (hs : ∀ p ∈ P₀, p ∈ P) (k' : ∀ s', St w c m own P s' → Q (.bool (late.contains k)) s') : wpAny (model PySem.Challenge.rw_pq1024_01.row.prog w) c.A (compareOp .In (.int k t) (.ref d)) Q E s := by
  obtain ⟨o, kv, hm, ho, hlo, hv⟩ := h
  exact kda_in (knd := IK w) S.N (List.mem_append_right _ (hs _ hm)) ho hlo (intKind_is _ _ _ _) _ (hv k) (k' _ (S.tok _))
end
/-- a Fixing made; a finished Facts -/
def FxObj (w : World) (P : Led) (x F : Addr) : Prop := ∃ d t, (x, instObj 501 d) ∈ P ∧ (d, dictOf [ent w "facts" t (.ref F)] 1) ∈ P
def FSet (w : World) (P : Led) (F : Addr) (cn : Int → Nat) : Prop := ∃ dF es n dS o kv, (F, instObj 379 dF) ∈ P ∧ (dF, dictOf es n) ∈ P ∧ getL (Str.ofString "set") es = some (some (.ref dS)) ∧ (dS, o) ∈ P ∧ o.IsDictOf (IK w) kv ∧ ∀ x, cn x ≠ 0 → ∃ t, valueAt kv x = some (.int (cn x : Nat) t)
theorem fme_501 (w : World) : findIn (hd.heap_39 w.params) (.ref 501) (Str.ofString "is_early") = some (some (.ref 484)) := by kernel_rfl
theorem fmw_501 (w : World) : findIn (hd.heap_39 w.params) (.ref 501) (Str.ofString "without") = some (some (.ref 498)) := by kernel_rfl
theorem fmt_501 (w : World) : findIn (hd.heap_39 w.params) (.ref 501) (Str.ofString "turned") = some (some (.ref 491)) := by kernel_rfl
theorem isfn_484 (w : World) : isFn (hd.heap_39 w.params) (.ref 484) = true := by kernel_rfl
theorem isfn_498 (w : World) : isFn (hd.heap_39 w.params) (.ref 498) = true := by kernel_rfl
theorem isfn_491 (w : World) : isFn (hd.heap_39 w.params) (.ref 491) = true := by kernel_rfl
theorem kpf_484 (w : World) : keepIn (hd.heap_39 w.params) (.ref 484) = true := by kernel_rfl
theorem kpf_498 (w : World) : keepIn (hd.heap_39 w.params) (.ref 498) = true := by kernel_rfl
theorem kpf_491 (w : World) : keepIn (hd.heap_39 w.params) (.ref 491) = true := by kernel_rfl
def keptOf (ns ps : List Int) (xs : List T) : List Int × List T := (((ps.zip xs).filter fun p => !ns.contains p.1).map (·.1), ((ps.zip xs).filter fun p => !ns.contains p.1).map (·.2))
theorem keptOf_snoc {ns a : List Int} {b : List T} {n : Int} {t : T} (h : a.length = b.length) : keptOf ns (a ++ [n]) (b ++ [t]) = ((keptOf ns a b).1 ++ (if ns.contains n then [] else [n]), (keptOf ns a b).2 ++ (if ns.contains n then [] else [t])) := by
  unfold keptOf
  rw [List.zip_append h, List.filter_append, List.map_append, List.map_append]
  by_cases hu : n ∈ ns <;> simp [hu]
theorem any_contains (ns : List Int) (n : Int) : ns.any (· == n) = ns.contains n := by
  induction ns with
  | nil => rfl
  | cons a r ih => rw [List.any_cons, List.contains_cons, ih, BEq.comm]

section
variable {w : World} {P : Led}
theorem without {x a nl : Addr} {l : Int} {ps : List Int} {b : T} {xs : List T} {us : List Value} {e : Nat} {ns : List Int} {v : Value} {t : T} (h : Nd w P a (.call (.lam l ps b) xs)) (hnl : (nl, listOf us.toArray e) ∈ P) (hi : IntsAre us ns) (hv : TR w P v t) (hp : ps.length ≤ 4000) :
    Pure w 10 P (call (.ref 498) [.ref x, .ref a, .ref nl, v]) fun P' r => TR w P' r (if ((ps.zip xs).filter fun p => !ns.contains p.1).isEmpty then t else .call (.lam l (((ps.zip xs).filter fun p => !ns.contains p.1).map (·.1)) t) (((ps.zip xs).filter fun p => !ns.contains p.1).map (·.2))) := by
  intro c m own s Q E S hdp hu ret
  have X := S.X
  refine wpAny_call ?_
  fold_lay
  clear ret S
  intro c' s' gN hd' hu' S'
  dsimp only [List.map] at S'
  have d3 : c'.A.depth + 6 < recursionLimit := by omega
  have u3 : c'.A.units + 8 * 6 < cLine := by omega
  have flag : OwnFlag := ⟨trivial⟩
  k_offL
  clear flag
  rename_i Lp _ _ _ _ Lo _ _ _ _
  refine For_ (by assumption) ?_ (by k_dflt exact fun _ => rfl)
  k_offL
  rename_i l1 us1 e1 _ hl1 hi1 _ l2 us2 e2 _ hl2 hn2
  have hu1 := hi1.length
  have hu2 := hn2.length
  refine forZ (vals := [some (.ref x), some (.ref a), some (.ref nl), some v, some (.ref Lp), some (.ref Lo), none, none]) (St.pad 2 (vs := [some (.ref x), some (.ref a), some (.ref nl), some v, some (.ref Lp), some (.ref Lo)]) (by assumption)) gN hl1 hl2
    (fun i vals₁ own₁ P₁ => ∃ v1 v2 pv ov ep eo, vals₁ = [some (.ref x), some (.ref a), some (.ref nl), some v, some (.ref Lp), some (.ref Lo), v1, v2] ∧ own₁ = [(Lo, listOf (ov : List Value).toArray eo), (Lp, listOf (pv : List Value).toArray ep)] ∧ (∀ p ∈ P, p ∈ P₁) ∧ pv.length ≤ i ∧ ov.length ≤ i ∧
      IntsAre pv (keptOf ns (ps.take i) (xs.take i)).1 ∧ All2 (TR w P₁) ov (keptOf ns (ps.take i) (xs.take i)).2)
    ⟨none, none, [], [], 0, 0, rfl, rfl, fun _ h => h, Nat.le_refl _, Nat.le_refl _, .nil, .nil⟩ ?_ ?_
  · rintro i u v' vals₁ own₁ P₁ P₁' W s₁ hi' hu hv' ⟨v1, v2, pv, ov, ep, eo, rfl, rfl, hP1, hpl, hol, hpv, hov⟩ S hs
    obtain ⟨n, tk, rfl, hn⟩ := hi1.at _ _ hu
    obtain ⟨xa, t', rfl, ht, hNd⟩ := hn2.get' hv'
    have hNd' := hNd.mono fun p hp => hs _ (hP1 p hp)
    have hnl' := hs _ (hP1 _ hnl)
    keq_hits
    keq_hits
    intro s2 S2
    have hin : i < ps.length := by omega
    have hinx : i < xs.length := by omega
    have htk1 : ps.take (i + 1) = ps.take i ++ [n] := by rw [List.take_add_one, hn]; rfl
    have htk2 : xs.take (i + 1) = xs.take i ++ [t'] := by rw [List.take_add_one, ht]; rfl
    have hlt : keptOf ns (ps.take (i + 1)) (xs.take (i + 1)) = ((keptOf ns (ps.take i) (xs.take i)).1 ++ (if ns.contains n then [] else [n]), (keptOf ns (ps.take i) (xs.take i)).2 ++ (if ns.contains n then [] else [t'])) := by
      rw [htk1, htk2, keptOf_snoc (by rw [List.length_take, List.length_take]; omega)]
    have hov' := hov.mono fun v t h => TR.mono _ _ _ _ hs h
    k_offL
    refine PyProof.Rows.notin_list_ints (St.isListP (by assumption) hnl') hi ?_
    k_offL
    rw [any_contains]
    refine ifB (fun hb => ?_) (fun hb => ?_)
    · have hc : ns.contains n = false := by simpa using hb
      rw [hc, if_neg (by decide), if_neg (by decide)] at hlt
      k_offL
      have S3 := St.perm (own' := _ :: _ :: W) (by assumption) (List.Perm.swap _ _ _)
      refine app S3 (fits_le (by omega)) ?_
      intro s4 S4
      k_offL
      have S5 := St.perm (own' := _ :: _ :: W) (by assumption) (List.Perm.swap _ _ _)
      refine app S5 (fits_le (by omega)) ?_
      intro s6 S6
      k_offL
      refine ⟨_, [_, _], P₁', S6, fun _ h => h, _, _, pv ++ [.int n tk], ov ++ [.ref xa], _, _, rfl, rfl, fun p hp => hs _ (hP1 _ hp), by simpa using hpl, by simpa using hol, ?_, ?_⟩
      · rw [hlt]; exact hpv.append (.cons _ _ .nil)
      · rw [hlt]; exact hov'.snoc ⟨_, rfl, hNd'⟩
    · have hc : ns.contains n = true := by simpa using hb
      rw [hc, if_pos rfl, if_pos rfl, List.append_nil, List.append_nil] at hlt
      k_offL
      refine ⟨_, [_, _], P₁', by assumption, fun _ h => h, _, _, pv, ov, _, _, rfl, rfl, fun p hp => hs _ (hP1 _ hp), by omega, by omega, ?_, ?_⟩
      · rw [hlt]; exact hpv
      · rw [hlt]; exact hov'
  · rintro vals' own' P' s3 S3 ⟨v1, v2, pv, ov, ep, eo, rfl, rfl, hP1, hpl, hol, hpv, hov⟩
    have hmin : min us1.length us2.length = min ps.length xs.length := by rw [hu1, hu2]
    rw [hmin] at hpv hov
    have hk : keptOf ns (ps.take (min ps.length xs.length)) (xs.take (min ps.length xs.length)) = keptOf ns ps xs := by
      unfold keptOf
      rw [zip_min]
    rw [hk] at hpv hov
    have S4 := S3.settle.settle
    have h' := h.mono fun p hp => List.mem_cons_of_mem (Lp, listOf pv.toArray ep) (List.mem_cons_of_mem (Lo, listOf ov.toArray eo) (hP1 p hp))
    have hv' := TR.mono _ _ _ _ (fun p hp => List.mem_cons_of_mem (Lp, listOf pv.toArray ep) (List.mem_cons_of_mem (Lo, listOf ov.toArray eo) (hP1 p hp))) hv
    have hov' := hov.mono fun v t h => TR.mono _ _ _ _ (fun p hp => List.mem_cons_of_mem (Lp, listOf pv.toArray ep) (List.mem_cons_of_mem (Lo, listOf ov.toArray eo) hp)) h
    have hie : ((ps.zip xs).filter fun p => !ns.contains p.1).isEmpty = decide (pv.length = 0) := by
      rw [hpv.length]
      unfold keptOf
      rw [List.length_map]
      cases (ps.zip xs).filter fun p => !ns.contains p.1 <;> simp
    dsimp only
    k_offL
    refine len_P (by assumption) (.head _) (by omega) ?_
    intro s5 tk5 S5
    k_offL
    refine ifB (fun hb => ?_) (fun hb => ?_)
    · have hb' : ¬ pv.length = 0 := by have := of_decide_eq_true hb; omega
      rw [hie, decide_eq_false hb', if_neg (by decide)]
      k_offL
      refine useP (let_node (.head _) hpv (.tail _ (.head _)) (Nds.of hov') hv') (by assumption) d3 u3 ?_
      intro r P3 s6 S6 hs6 hT
      exact ⟨_, [], [], P3, S6, fun p hp => hs6 _ (.tail _ (.tail _ (hP1 _ hp))), (by rfl), hT⟩
    · have hb' : pv.length = 0 := by have := of_decide_eq_false hb; omega
      rw [hie, decide_eq_true hb', if_pos rfl]
      k_offL
      exact ⟨_, [], [], _, by assumption, fun p hp => .tail _ (.tail _ (hP1 _ hp)), (by rfl), hv'⟩
end
theorem early_stop {items : List T} {i : Nat} {t : T} (h : i ≤ (early items).length) (ht : items[i]? = some t) (hs : isE t = false) : i = (early items).length := by
  rcases Nat.lt_or_ge i (early items).length with hl | hl
  · exfalso
    have e := early_take items
    have h1 : (early items)[i]? = some t := by
      rw [e, List.getElem?_take_of_lt hl]; exact ht
    have := early_isE t (List.mem_of_getElem? h1)
    rw [hs] at this; cases this
  · omega
theorem early_end {items : List T} {i : Nat} (h : i ≤ (early items).length) (hs : ¬ (i : Int) < (items.length : Int) - 1) : i = (early items).length := by
  have := early_len items
  omega
theorem tw_ge {α : Type} (p : α → Bool) : ∀ (l : List α) (k : Nat), k ≤ l.length → (∀ x ∈ l.take k, p x = true) → k ≤ (l.takeWhile p).length
  | _, 0, _, _ => Nat.zero_le _
  | x :: r, k + 1, h, hp => by
    have hx := hp x (by rw [List.take_succ_cons]; exact .head _)
    rw [List.takeWhile_cons, if_pos hx, List.length_cons]
    have := tw_ge p r k (by simpa using h) fun y hy => hp y (by rw [List.take_succ_cons]; exact .tail _ hy)
    omega
  | [], k + 1, h, _ => by simp at h
theorem early_more {items : List T} {i : Nat} {t : T} (h : i ≤ (early items).length) (hi : (i : Int) < (items.length : Int) - 1) (ht : items[i]? = some t) (hs : isE t = true) : i + 1 ≤ (early items).length := by
  unfold early
  refine tw_ge isE items.dropLast (i + 1) (by rw [List.length_dropLast]; omega) fun x hx => ?_
  rw [List.dropLast_eq_take, List.take_take, Nat.min_eq_left (by omega), List.take_add_one, ht] at hx
  rcases List.mem_append.mp hx with hx | hx
  · have e := early_take items
    have h2 : items.take i = (early items).take i := by rw [e, List.take_take, Nat.min_eq_left h]
    rw [h2] at hx
    exact early_isE x (List.mem_of_mem_take hx)
  · have : x = t := by simpa using hx
    rw [this]; exact hs
theorem isLet_false {c : Int → Nat} {t : T} (h : isLet t = false) : turn c t = t := by
  unfold turn
  split
  · rename_i l ps items xs
    have : ¬ ps.length = xs.length := fun e => by simp [isLet, e] at h
    rw [if_neg this]
  · rfl
theorem isLet_true {t : T} (h : isLet t = true) : ∃ l ps b xs, t = .call (.lam l ps b) xs ∧ ps.length = xs.length := by
  unfold isLet at h
  split at h
  · exact ⟨_, _, _, _, rfl, by simpa using h⟩
  · cases h
/-- a call's own code, at whatever address -/
def PureC (w : World) (k : Nat) (P : Led) (f : Addr) (vs : List Value) (Out : Led → Value → Prop) : Prop :=
  ∀ (c : Cx) (m : Str → Option Value) (own : Led) (s : Shared) (Q E : Value → Shared → Prop), St w c m own P s → c.A.depth + k < recursionLimit → c.A.units + 8 * k < cLine →
    (∀ r P' s', St w c m own P' s' → (∀ p ∈ P, p ∈ P') → Out P' r → Q r s') → codeAny (model PySem.Challenge.rw_pq1024_01.row.prog w) c.A (.call (.ref f) ⟨vs, []⟩) (fun r s' => match r with | .ok (.ret v) => Q v s' | .ok _ => False | .error e => E e s') s
def SetOk (cn : Int → Nat) : T → Prop
  | .call (.lam _ _ (.seq items)) _ => ∀ t ∈ items, ∀ n v, t = .setl n v → cn n ≠ 0
  | _ => True
theorem turn_other {c : Int → Nat} {l : Int} {ps : List Int} {b : T} {xs : List T} (h : b.kind ≠ 9) : turn c (.call (.lam l ps b) xs) = .call (.lam l ps b) xs := by
  cases b <;> first | rfl | exact absurd rfl h
theorem kind9 {b : T} (h : b.kind = 9) : ∃ items, b = .seq items := by cases b <;> first | exact ⟨_, rfl⟩ | cases h
theorem sk_item {w : World} {c : Cx} {m : Str → Option Value} {own P : Led} {s : Shared} {E Q : Value → Shared → Prop} {value slice : Expr} {d : Addr} {o : Obj} {kv : KV} {k : Int} {t : Tok} {v : Value} (S : St w c m own P s) (hm : (d, o) ∈ P) (ho : o.IsDictOf (IK w) kv) (hl : valueAt kv k = some v) (h : ∀ s', St w c m own P s' → Q v s')
    (hs : subscripted slice false (.ref d) (.int k t) = operate [.ref d, .int k t] (getItem (.ref d) (.int k t))) :
    wpAny (model PySem.Challenge.rw_pq1024_01.row.prog w) c.A (subscriptTail value slice (.ref d) (.int k t)) Q E s :=
  have hm' := List.mem_append_right own hm
  tail_any (kda_dict S.N hm' ho).typeIs slot_dict_getitem.lookup (kdt_getItem (knd := IK w) S.N hm' ho (intKind_is _ _ _ _) hl (h _ (S.tok _))) hs
theorem p_cab {α : Type} {a b c : α} : [a, b, c].Perm [c, a, b] := (List.Perm.cons _ (List.Perm.swap _ _ _)).trans (List.Perm.swap _ _ _)
theorem Nds.dropN {w : World} {P : Led} : ∀ {vs : List Value} {ts : List T} (k : Nat), Nds w P vs ts → Nds w P (vs.drop k) (ts.drop k)
  | _, _, 0, h => h
  | _, _, _ + 1, .nil => .nil
  | _, _, k + 1, .cons _ r => r.dropN k
theorem Nds.takeN {w : World} {P : Led} : ∀ {vs : List Value} {ts : List T} (k : Nat), Nds w P vs ts → Nds w P (vs.take k) (ts.take k)
  | _, _, 0, _ => .nil
  | _, _, _ + 1, .nil => .nil
  | _, _, k + 1, .cons h r => .cons h (r.takeN k)

section
variable {w : World} {P : Led}
theorem turned {x a F : Addr} {t : T} {cn : Int → Nat} (h : Nd w P a t) (hx : FxObj w P x F) (hF : FSet w P F cn) (hz : t.size ≤ 4000) (hok : SetOk cn t) :
    PureC w 20 P 491 [.ref x, .ref a] fun P' r => TR w P' r (turn cn t) := by
  intro c m own s Q E S hdp hu ret
  have X := S.X
  fold_lay
  clear ret S
  intro c' s' gN hd' hu' S'
  dsimp only [List.map] at S'
  have d3 : c'.A.depth + 10 < recursionLimit := by omega
  have d2 : c'.A.depth + 2 < recursionLimit := by omega
  have d6 : c'.A.depth + 6 < recursionLimit := by omega
  have u3 : c'.A.units + 8 * 10 < cLine := by omega
  have u2 : c'.A.units + 8 * 2 < cLine := by omega
  have u6 : c'.A.units + 8 * 6 < cLine := by omega
  clear hdp hu hd' hu'
  obtain ⟨dx, tf, hx1, hx2⟩ := hx
  have same : ∀ (P' : Led) (s' : Shared) m', St w c' m' [] P' s' → (∀ p ∈ P, p ∈ P') → turn cn t = t → Ends w c' P (fun cs P' r => cs = [] ∧ TR w P' r (turn cn t)) (.ref a) s' := fun P' s' m' S hs e => ⟨_, [], [], P', S, hs, rfl, a, rfl, by rw [e]; exact h.mono hs⟩
  k_offL
  refine useP (is_let h hz) (by assumption) d2 u2 ?_
  rintro r P0 s1 S1 hs1 rfl
  k_offL
  refine ifB (fun hb => ?_) (fun hb => ?_)
  · have hb' : isLet t = false := by simpa using hb
    k_offL
    exact same _ _ _ (by assumption) hs1 (isLet_false hb')
  have hb' : isLet t = true := by simpa using hb
  obtain ⟨l, ps, b, xs, rfl, hlen⟩ := isLet_true hb'
  clear hb hb'
  have h0 := h.mono hs1
  k_offL
  by_cases hk : b.kind = 9
  rotate_left
  · refine ne_int_tt (by simpa using hk) ?_
    k_offL
    exact same _ _ _ (by assumption) hs1 (turn_other hk)
  obtain ⟨items, rfl⟩ := kind9 hk
  refine ne_int_ff (by exact rfl) ?_
  have hpl : ps.length ≤ 4000 := by
    have := len_sizes xs
    simp only [T.size] at hz; omega
  have hil : items.length ≤ 4000 := by
    have := len_sizes items
    simp only [T.size] at hz; omega
  clear hz
  k_offL
  refine useP (begun_late h0 hpl) (by assumption) d6 u6 ?_
  rintro r P1 s2 S2 hs2 ⟨d, rfl, hdk⟩
  have h1 := h0.mono hs2
  have flag : OwnFlag := ⟨trivial⟩
  k_offL
  clear flag
  rename_i l1 us1 e1 _ hl1 hn1 _ _ Nl _ _ _ _ Ll _ _ _ _ Rl _ _ _ _ _ tk0 _ _ _
  have hul := hn1.length
  refine cutN gN (fun ns f s' => f = .next ∧ ∃ tki it nv lv rv en el er P2, (∀ p ∈ P1, p ∈ P2) ∧ St w c' (asg ns [some (.ref x), some (.ref a), some (.ref d), some (.ref l1), some (.ref Nl), some (.ref Ll), some (.ref Rl), some (.int (((early items).length : Nat) : Int) tki), it]) [(Rl, listOf (rv : List Value).toArray er), (Ll, listOf (lv : List Value).toArray el), (Nl, listOf (nv : List Value).toArray en)] P2 s' ∧
    IntsAre nv (((early items).filter (tkn cn (lateOf ps xs))).map T.num) ∧ All2 (TR w P2) lv (((early items).filter (tkn cn (lateOf ps xs))).map T.valu) ∧ All2 (TR w P2) rv ((early items).filter fun t => !tkn cn (lateOf ps xs) t)) ?_ ?_
  · refine whileR (fun k s => ∃ i tki it nv lv rv en el er P2, k = items.length - i ∧ i ≤ (early items).length ∧ (∀ p ∈ P1, p ∈ P2) ∧ St w c' (asg _ [some (.ref x), some (.ref a), some (.ref d), some (.ref l1), some (.ref Nl), some (.ref Ll), some (.ref Rl), some (.int ((i : Nat) : Int) tki), it]) [(Rl, listOf (rv : List Value).toArray er), (Ll, listOf (lv : List Value).toArray el), (Nl, listOf (nv : List Value).toArray en)] P2 s ∧
      IntsAre nv (((items.take i).filter (tkn cn (lateOf ps xs))).map T.num) ∧ All2 (TR w P2) lv (((items.take i).filter (tkn cn (lateOf ps xs))).map T.valu) ∧ All2 (TR w P2) rv ((items.take i).filter fun t => !tkn cn (lateOf ps xs) t) ∧ nv.length ≤ i ∧ lv.length ≤ i ∧ rv.length ≤ i) ?_ items.length _
      ⟨0, tk0, none, [], [], [], 0, 0, 0, P1, rfl, Nat.zero_le _, fun _ h => h, St.pad 1 (vs := [some (.ref x), some (.ref a), some (.ref d), some (.ref l1), some (.ref Nl), some (.ref Ll), some (.ref Rl), some (.int 0 tk0)]) (by assumption), .nil, .nil, .nil, Nat.le_refl _, Nat.le_refl _, Nat.le_refl _⟩
    rintro k s3 ⟨i, tki, it, nv, lv, rv, en, el, er, P2, rfl, hie, hP2, S3, hnv, hlv, hrv, hn1', hl1', hr1'⟩
    have hl2 := hP2 _ hl1
    have hx1' := hP2 _ (hs2 _ (hs1 _ hx1))
    have hx2' := hP2 _ (hs2 _ (hs1 _ hx2))
    have hdk' : DK w P2 d (lateOf ps xs) := by obtain ⟨o, kv, a1, a2, a3, a4⟩ := hdk; exact ⟨o, kv, hP2 _ a1, a2, a3, a4⟩
    k_offL
    refine len_P (by assumption) hl2 (by omega) ?_
    intro s4 tk4 S4
    k_offL
    refine ifB (fun hb => ?_) (fun hb => ?_)
    rotate_left
    · have hei := early_end hie (by have := of_decide_eq_false hb; omega)
      k_offL
      exact ⟨rfl, _, _, _, _, _, _, _, _, P2, hP2, by rw [← hei]; assumption, by rw [hei, ← early_take] at hnv; exact hnv, by rw [hei, ← early_take] at hlv; exact hlv, by rw [hei, ← early_take] at hrv; exact hrv⟩
    have hilt : (i : Int) < (items.length : Int) - 1 := by have := of_decide_eq_true hb; omega
    obtain ⟨v, hv⟩ : ∃ v, us1[i]? = some v := ⟨us1[i]'(by omega), by simp⟩
    obtain ⟨xa, t, rfl, ht, hNd⟩ := hn1.get' hv
    have hNd' := hNd.mono hP2
    k_offL
    refine meth1 (by assumption) hx1' hx2' (pg_Fixing w _) (fme_501 w) (isfn_484 w) (by exact rfl) (kpf_484 w) ?_ (by k_dflt rfl)
    k_offL
    refine li_item (St.isListP (by assumption) hl2) (by omega) (by omega) (by simpa using hv) ?_ (by k_dflt rfl)
    refine ⟨St.kin (by assumption), ?_⟩
    refine useP (is_early hNd') (by assumption) d2 u2 ?_
    rintro r P3 s5 S5 hs5 rfl
    k_offL
    refine ifB (fun hb2 => ?_) (fun hb2 => ?_)
    rotate_left
    · have hei := early_stop hie ht hb2
      k_offL
      exact ⟨rfl, _, _, _, _, _, _, _, _, P3, fun p hp => hs5 _ (hP2 _ hp), by rw [← hei]; assumption, by rw [hei, ← early_take] at hnv; exact hnv, by rw [hei, ← early_take] at hlv; exact hlv.mono fun v t h => TR.mono _ _ _ _ hs5 h, by rw [hei, ← early_take] at hrv; exact hrv.mono fun v t h => TR.mono _ _ _ _ hs5 h⟩
    have hie' := early_more hie hilt ht hb2
    obtain ⟨n, tv, rfl⟩ : ∃ n tv, t = .setl n tv := by cases t <;> first | exact ⟨_, _, rfl⟩ | cases hb2
    have hNd3 := hNd'.mono hs5
    have htk : items.take (i + 1) = items.take i ++ [.setl n tv] := by rw [List.take_add_one, ht]; rfl
    k_offL
    refine li_item (St.isListP (by assumption) (hs5 _ hl2)) (by omega) (by omega) (by simpa using hv) ?_ (by k_dflt rfl)
    iterate 3 k_clsL
    have hdk3 : DK w P3 d (lateOf ps xs) := by obtain ⟨o, kv, a1, a2, a3, a4⟩ := hdk'; exact ⟨o, kv, hs5 _ a1, a2, a3, a4⟩
    have hx13 := hs5 _ hx1'
    have hx23 := hs5 _ hx2'
    have toP3 : ∀ p ∈ P, p ∈ P3 := fun p hp => hs5 _ (hP2 _ (hs2 _ (hs1 _ hp)))
    refine cutN gN (fun ns b s' => b = tkn cn (lateOf ps xs) (.setl n tv) ∧ St w c' (asg ns [some (.ref x), some (.ref a), some (.ref d), some (.ref l1), some (.ref Nl), some (.ref Ll), some (.ref Rl), some (.int ((i : Nat) : Int) tki), some (.ref xa)]) [(Rl, listOf rv.toArray er), (Ll, listOf lv.toArray el), (Nl, listOf nv.toArray en)] P3 s') ?_ ?_
    · k_offL
      refine ifB (fun hb3 => ?_) (fun hb3 => ?_)
      rotate_left
      · exact ⟨by simp only [tkn, isLam, hb3, Bool.false_and], by assumption⟩
      k_offL
      refine dk_in (by assumption) hdk3 (by k_places) ?_
      intro s6 S6
      k_offL
      refine ifB (fun hb4 => ?_) (fun hb4 => ?_)
      rotate_left
      · exact ⟨by simp only [tkn, isLam, hb3, hb4, Bool.false_and, Bool.true_and], by assumption⟩
      k_offL
      refine ga (pg_Fixing w _) (hh_Fixing w) (fi_Fixing_facts w) (by assumption) hx13 hx23 rfl rfl ?_
      intro s7 S7
      k_offL
      obtain ⟨dF, es, nF, dS, oS, kvS, hF1, hF2, hF3, hF4, hF5, hF6⟩ := hF
      refine ga (pg_Facts w _) (hh_Facts w) (fi_Facts_set w) (by assumption) (toP3 _ hF1) (toP3 _ hF2) hF3 rfl ?_
      intro s8 S8
      k_offL
      obtain ⟨tS, htS⟩ := hF6 n (hok _ (List.mem_of_getElem? ht) n tv rfl)
      refine sk_item (by assumption) (toP3 _ hF4) hF5 htS ?_ (by k_dflt rfl)
      intro s9 S9
      k_offL
      have e1 : (((cn n : Nat) : Int) == 1) = (cn n == 1) := natbeq (cn n) 1
      rw [e1]
      have e2 : tkn cn (lateOf ps xs) (.setl n tv) = (cn n == 1) := by simp only [tkn, isLam, hb3, hb4, Bool.true_and]
      rw [e2]
      refine ifB (fun hb5 => ?_) (fun hb5 => ?_)
      · k_offL
        exact ⟨hb5.symm, by assumption⟩
      · exact ⟨hb5.symm, by assumption⟩
    · rintro b s6 ⟨rfl, S6⟩
      have hlv3 := hlv.mono fun v t h => TR.mono _ _ _ _ hs5 h
      have hrv3 := hrv.mono fun v t h => TR.mono _ _ _ _ hs5 h
      refine ifB (fun hb => ?_) (fun hb => ?_)
      · k_offL
        refine app (St.perm (own' := [_, _, _]) (by assumption) p_cab) (fits_le (by omega)) ?_
        intro s8 S8
        k_offL
        rename_i vv _ hvv
        refine app (St.perm (own' := [_, _, _]) (by assumption) p_cab) (fits_le (by omega)) ?_
        intro s11 S11
        have S12 := S11.perm (own' := [_, _, _]) p_cab
        k_offL
        refine ⟨_, Nat.sub_lt_sub_left (by omega) (Nat.lt_succ_self i), i + 1, _, _, _, _, _, _, _, _, P3, rfl, hie', fun p hp => hs5 _ (hP2 _ hp), by assumption, ?_, ?_, ?_, by simpa using hn1', by simpa using hl1', by omega⟩
        · rw [htk, List.filter_append, List.map_append]
          simp only [List.filter_cons, hb, if_true, List.filter_nil, List.map_cons, List.map_nil, T.num]
          exact hnv.append (.cons _ _ .nil)
        · rw [htk, List.filter_append, List.map_append]
          simp only [List.filter_cons, hb, if_true, List.filter_nil, List.map_cons, List.map_nil, T.valu]
          exact hlv3.snoc ⟨_, rfl, hvv⟩
        · rw [htk, List.filter_append]
          simp only [List.filter_cons, hb, Bool.not_true, Bool.false_eq_true, if_false, List.filter_nil, List.append_nil]
          exact hrv3
      · k_offL
        refine app (by assumption) (fits_le (by omega)) ?_
        intro s11 S11
        k_offL
        refine ⟨_, Nat.sub_lt_sub_left (by omega) (Nat.lt_succ_self i), i + 1, _, _, _, _, _, _, _, _, P3, rfl, hie', fun p hp => hs5 _ (hP2 _ hp), by assumption, ?_, ?_, ?_, by omega, by omega, by simpa using hr1'⟩
        · rw [htk, List.filter_append, List.map_append]
          simp only [List.filter_cons, hb, Bool.false_eq_true, if_false, List.filter_nil, List.map_nil, List.append_nil]
          exact hnv
        · rw [htk, List.filter_append, List.map_append]
          simp only [List.filter_cons, hb, Bool.false_eq_true, if_false, List.filter_nil, List.map_nil, List.append_nil]
          exact hlv3
        · rw [htk, List.filter_append]
          simp only [List.filter_cons, hb, Bool.not_false, if_true, List.filter_nil]
          exact hrv3.snoc ⟨_, rfl, hNd3⟩
  rintro f s3 ⟨rfl, tki, it, nv, lv, rv, en, el, er, P2, hP2, S3, hnv, hlv, hrv⟩
  have toP2 : ∀ p ∈ P, p ∈ P2 := fun p hp => hP2 _ (hs2 _ (hs1 _ hp))
  have ht1 : turn cn (.call (.lam l ps (.seq items)) xs) = turnL cn l ps items xs := by
    show (if ps.length = xs.length then _ else _) = _
    rw [if_pos hlen]
  have hel : (early items).length ≤ 4000 := Nat.le_trans (early_len items) (by omega)
  have hnl : nv.length ≤ 4000 := by
    rw [hnv.length, List.length_map]
    exact Nat.le_trans (List.length_filter_le _ _) hel
  have hll : lv.length ≤ 4000 := by
    rw [hlv.length, List.length_map]
    exact Nat.le_trans (List.length_filter_le _ _) hel
  have hrl : rv.length ≤ 4000 := by
    rw [hrv.length]
    exact Nat.le_trans (List.length_filter_le _ _) hel
  have hNe : ((early items).filter (tkn cn (lateOf ps xs))).isEmpty = decide (nv.length = 0) := by
    rw [hnv.length, List.length_map]
    cases (early items).filter (tkn cn (lateOf ps xs)) <;> simp
  dsimp only
  k_offL
  refine len_O (by assumption) (by k_mem) (by omega) ?_
  intro s4 tk4 S4
  k_offL
  refine ifB (fun hb => ?_) (fun hb => ?_)
  · k_offL
    have hz0 : nv.length = 0 := by have := eq_of_beq hb; omega
    refine ⟨_, [], [_, _, _], P2, by assumption, toP2, (by rfl), a, rfl, ?_⟩
    rw [ht1]
    unfold turnL
    dsimp only
    rw [hNe, decide_eq_true hz0, if_pos rfl]
    exact h.mono toP2
  · have hz0 : ¬ nv.length = 0 := fun e => by rw [e] at hb; exact absurd hb (by decide)
    rename_i Sz
    have S5 := (Sz.perm (own' := [_, _, _]) p_cab).settle
    have S6 := (S5.perm (own' := [_, _]) (List.Perm.swap _ _ _)).settle.settle
    have hsub : ∀ p ∈ P2, p ∈ (Rl, listOf rv.toArray er) :: (Ll, listOf lv.toArray el) :: (Nl, listOf nv.toArray en) :: P2 := fun p hp => .tail _ (.tail _ (.tail _ hp))
    have hl2 := hsub _ (hP2 _ hl1)
    have hx1' := hsub _ (toP2 _ hx1)
    have hx2' := hsub _ (toP2 _ hx2)
    clear S5 Sz S4 S3
    have hn2 := hn1.mono fun p hp => hsub _ (hP2 p hp)
    k_offL
    refine meth3 (by assumption) hx1' hx2' (pg_Fixing w _) (fmw_501 w) (isfn_498 w) (by exact rfl) (kpf_498 w) ?_ (by k_dflt rfl) (by k_dflt rfl) (by k_dflt rfl)
    k_offL
    refine slice_up (xs := us1) (by assumption) (St.isListP (by assumption) hl2) (.int _ _) .none (pick_from (by omega)) (by omega) ?_ (by k_dflt rfl) (by k_dflt exact fun _ => rfl)
    intro Ds s7 S7
    rw [Int.toNat_natCast] at S7
    k_offL
    refine add_l (xs := rv) (ys := us1.drop (early items).length) (by assumption) (St.isListP (by assumption) (by k_mem)) (St.isListP (by assumption) (by k_mem)) (fits_le (by rw [List.length_drop]; omega)) ?_
    intro D2 s8 S8
    k_offL
    have hnr : Nds w ((D2, listOf (rv ++ us1.drop (early items).length).toArray 0) :: (Ds, listOf (us1.drop (early items).length).toArray 0) :: (Rl, listOf rv.toArray er) :: (Ll, listOf lv.toArray el) :: (Nl, listOf nv.toArray en) :: P2) (rv ++ us1.drop (early items).length) (((early items).filter fun t => !tkn cn (lateOf ps xs) t) ++ items.drop (early items).length) :=
      (Nds.of (hrv.mono fun v t h => TR.mono _ _ _ _ (fun p hp => .tail _ (.tail _ (hsub _ hp))) h)).append ((hn2.mono fun p hp => .tail _ (.tail _ hp)).dropN _)
    refine useP (seq_of (.head _) hnr (by rw [← hnr.length, List.length_append, List.length_drop]; omega)) (by assumption) d6 u6 ?_
    intro r P4 s9 S9 hs9 hT
    k_offL
    have hlv4 := hlv.mono fun v t h => TR.mono _ _ _ _ (fun p hp => hs9 _ (.tail _ (.tail _ (hsub _ hp)))) h
    refine useP (mk_fix (hs9 _ (.tail _ (.tail _ (.tail _ (.tail _ (.head _)))))) hnv (hs9 _ (.tail _ (.tail _ (.tail _ (.head _))))) (Nds.of hlv4) hT) (by assumption) (by omega) (by omega) ?_
    intro r P5 s10 S10 hs10 hT2
    have h5 := h.mono fun p hp => hs10 _ (hs9 _ (.tail _ (.tail _ (hsub _ (toP2 p hp)))))
    k_offL
    refine useP (without h5 (hs10 _ (hs9 _ (.tail _ (.tail _ (.tail _ (.tail _ (.head _))))))) hnv hT2 hpl) (by assumption) d3 u3 ?_
    intro r P6 s11 S11 hs11 hT3
    refine ⟨_, [], [], P6, by assumption, fun p hp => hs11 _ (hs10 _ (hs9 _ (.tail _ (.tail _ (hsub _ (toP2 p hp)))))), (by rfl), ?_⟩
    rw [ht1]
    unfold turnL
    dsimp only
    rw [hNe, decide_eq_false hz0, if_neg (by decide)]
    exact hT3
end
end Mine
end
section
namespace Mine
theorem instObj_inj {C C' d d' : Addr} (h : instObj C d = instObj C' d') : C = C' ∧ d = d' := by
  simp only [instObj, Obj.mk.injEq, Value.ref.injEq, Option.some.injEq] at h
  exact ⟨h.1, h.2.1⟩
theorem dictOf_inj {es es' : List DictEntry} {n n' : Nat} (h : dictOf es n = dictOf es' n') : es = es' := by
  simp only [dictOf, Obj.mk.injEq, Data.dict.injEq] at h
  simpa using h.2.2.1.1
theorem listOf_inj {vs vs' : List Value} {n n' : Nat} (h : PySem.W.listOf vs.toArray n = PySem.W.listOf vs'.toArray n') : vs = vs' := by
  simp only [PySem.W.listOf, Obj.mk.injEq, Data.seq.injEq] at h
  simpa using h.2.2.1.1
def Fun1 (P : Led) : Prop := ∀ x o o', (x, o) ∈ P → (x, o') ∈ P → o = o'
theorem St.fun1 {w : World} {c : Cx} {m : Str → Option Value} {own P : Led} {s : Shared} (S : St w c m own P s) : Fun1 P := fun x o o' h h' => by
  have h1 := S.inP h
  have h2 := S.inP h'
  rw [h1] at h2
  exact Option.some.inj h2
theorem IntsAre.uniq : ∀ {vs : List Value} {ns ns' : List Int}, IntsAre vs ns → IntsAre vs ns' → ns = ns'
  | _, _, _, .nil, .nil => rfl
  | _, _, _, .cons _ _ r, .cons _ _ r' => by rw [IntsAre.uniq r r']
mutual
theorem Nd.uniq {w : World} {P : Led} (hf : Fun1 P) : ∀ {a : Addr} {t t' : T}, Nd w P a t → Nd w P a t' → t = t'
  | _, _, _, .cint h1 h2, h' => by
    cases h' <;> (try have e := instObj_inj (hf _ _ _ h1 (by assumption))) <;> first | exact absurd e.1 (by decide) | (obtain ⟨_, rfl⟩ := e)
    · have := dictOf_inj (hf _ _ _ h2 (by assumption)); simp at this; congr 1; exact Fin.ext (by omega)
    · have := dictOf_inj (hf _ _ _ h2 (by assumption)); simp at this
  | _, _, _, .cun h1 h2, h' => by
    cases h' <;> (try have e := instObj_inj (hf _ _ _ h1 (by assumption))) <;> first | exact absurd e.1 (by decide) | (obtain ⟨_, rfl⟩ := e)
    · have := dictOf_inj (hf _ _ _ h2 (by assumption)); simp at this
    · rfl
  | _, _, _, .loc h1 h2, h' => by
    cases h' <;> (try have e := instObj_inj (hf _ _ _ h1 (by assumption))) <;> first | exact absurd e.1 (by decide) | (obtain ⟨_, rfl⟩ := e)
    · have := dictOf_inj (hf _ _ _ h2 (by assumption)); simp at this; rw [this.2.1]
  | _, _, _, .glob h1 h2, h' => by
    cases h' <;> (try have e := instObj_inj (hf _ _ _ h1 (by assumption))) <;> first | exact absurd e.1 (by decide) | (obtain ⟨_, rfl⟩ := e)
    · have := dictOf_inj (hf _ _ _ h2 (by assumption)); simp at this; rw [this.2.1]
  | _, _, _, .setl h1 h2 h3, h' => by
    cases h' <;> (try have e := instObj_inj (hf _ _ _ h1 (by assumption))) <;> first | exact absurd e.1 (by decide) | (obtain ⟨_, rfl⟩ := e)
    have := dictOf_inj (hf _ _ _ h2 (by assumption)); simp at this
    obtain ⟨⟨_, rfl, _⟩, _, rfl⟩ := this
    rw [Nd.uniq hf h3 (by assumption)]
  | _, _, _, .lam h1 h2 h3 h4 h5, h' => by
    cases h' <;> (try have e := instObj_inj (hf _ _ _ h1 (by assumption))) <;> first | exact absurd e.1 (by decide) | (obtain ⟨_, rfl⟩ := e)
    have := dictOf_inj (hf _ _ _ h2 (by assumption)); simp at this
    obtain ⟨⟨_, rfl, _⟩, ⟨_, rfl⟩, _, _, rfl⟩ := this
    have := listOf_inj (hf _ _ _ h3 (by assumption))
    subst this
    rw [IntsAre.uniq h4 (by assumption), Nd.uniq hf h5 (by assumption)]
  | _, _, _, .call h1 h2 h3 h4 h5, h' => by
    cases h' <;> (try have e := instObj_inj (hf _ _ _ h1 (by assumption))) <;> first | exact absurd e.1 (by decide) | (obtain ⟨_, rfl⟩ := e)
    have := dictOf_inj (hf _ _ _ h2 (by assumption)); simp at this
    obtain ⟨⟨_, rfl⟩, _, rfl⟩ := this
    have := listOf_inj (hf _ _ _ h3 (by assumption))
    subst this
    rw [Nd.uniq hf h4 (by assumption), Nds.uniq hf h5 (by assumption)]
  | _, _, _, .seq h1 h2 h3 h4, h' => by
    cases h' <;> (try have e := instObj_inj (hf _ _ _ h1 (by assumption))) <;> first | exact absurd e.1 (by decide) | (obtain ⟨_, rfl⟩ := e)
    have := dictOf_inj (hf _ _ _ h2 (by assumption)); simp at this
    obtain ⟨_, rfl⟩ := this
    have := listOf_inj (hf _ _ _ h3 (by assumption))
    subst this
    rw [Nds.uniq hf h4 (by assumption)]
  | _, _, _, .fix h1 h2 h3 h4 h5 h6 h7, h' => by
    cases h' <;> (try have e := instObj_inj (hf _ _ _ h1 (by assumption))) <;> first | exact absurd e.1 (by decide) | (obtain ⟨_, rfl⟩ := e)
    have := dictOf_inj (hf _ _ _ h2 (by assumption)); simp at this
    obtain ⟨⟨_, rfl⟩, ⟨_, rfl⟩, _, rfl⟩ := this
    have e1 := listOf_inj (hf _ _ _ h3 (by assumption))
    have e2 := listOf_inj (hf _ _ _ h5 (by assumption))
    subst e1 e2
    rw [IntsAre.uniq h4 (by assumption), Nds.uniq hf h6 (by assumption), Nd.uniq hf h7 (by assumption)]
theorem Nds.uniq {w : World} {P : Led} (hf : Fun1 P) : ∀ {vs : List Value} {ts ts' : List T}, Nds w P vs ts → Nds w P vs ts' → ts = ts'
  | _, _, _, .nil, .nil => rfl
  | _, _, _, .cons h r, .cons h' r' => by rw [Nd.uniq hf h h', Nds.uniq hf r r']
end
/-! what is set stays set -/
theorem setn_valu (t : T) : ∀ n ∈ setn t.valu, n ∈ setn t := by
  cases t <;> simp [T.valu, setn]
  intro n hn
  exact .inr hn
theorem setns_sub {a b : List T} (h : ∀ t ∈ a, ∀ n ∈ setn t, n ∈ setns b) : ∀ n ∈ setns a, n ∈ setns b := by
  induction a with
  | nil => intro n hn; cases hn
  | cons t r ih =>
    intro n hn
    rcases List.mem_append.mp hn with hn | hn
    · exact h t (.head _) n hn
    · exact ih (fun t ht => h t (.tail _ ht)) n hn
theorem setn_seqOf (l : List T) : ∀ n ∈ setn (seqOf l), n ∈ setns l := by
  match l with
  | [] => intro n hn; simpa [seqOf, setn] using hn
  | [t] => intro n hn; simpa [seqOf, setns] using hn
  | _ :: _ :: _ => intro n hn; simpa [seqOf, setn] using hn
theorem setn_turnL (c : Int → Nat) (l : Int) (ps : List Int) (items xs : List T) : ∀ n ∈ setn (turnL c l ps items xs), n ∈ setn (T.call (.lam l ps (.seq items)) xs) := by
  intro n hn
  unfold turnL at hn
  dsimp only at hn
  split at hn
  · exact hn
  · generalize htk : (early items).filter (tkn c (lateOf ps xs)) = tk at hn
    generalize hrs : (early items).filter (fun t => !tkn c (lateOf ps xs) t) = rs at hn
    have se : ∀ t ∈ early items, t ∈ items := fun t ht => by
      have := early_split items
      rw [← this]; exact List.mem_append_left _ ht
    have hb : ∀ n ∈ setn (T.fix (tk.map T.num) (tk.map T.valu) (seqOf (rs ++ items.drop (early items).length))), n ∈ setns items := by
      intro n hn
      rcases List.mem_append.mp hn with hn | hn
      · refine setns_sub (fun t ht n hn => ?_) n hn
        obtain ⟨u, hu, rfl⟩ := List.mem_map.mp ht
        rw [← htk] at hu
        exact setns_mem (se u (List.mem_filter.mp hu).1) n (setn_valu u n hn)
      · refine setns_sub (fun t ht n hn => ?_) n (setn_seqOf _ n hn)
        rcases List.mem_append.mp ht with ht | ht
        · rw [← hrs] at ht; exact setns_mem (se t (List.mem_filter.mp ht).1) n hn
        · exact setns_mem (List.mem_of_mem_drop ht) n hn
    split at hn
    · exact List.mem_append_left _ (hb n hn)
    · rcases List.mem_append.mp hn with hn | hn
      · exact List.mem_append_left _ (hb n hn)
      · refine List.mem_append_right _ (setns_sub (fun t ht n hn => ?_) n hn)
        obtain ⟨p, hp, rfl⟩ := List.mem_map.mp ht
        exact setns_mem (List.of_mem_zip (List.mem_filter.mp hp).1).2 n hn
theorem setn_turn (c : Int → Nat) (t : T) : ∀ n ∈ setn (turn c t), n ∈ setn t := by
  unfold turn
  split
  · split
    · exact setn_turnL c _ _ _ _
    · exact fun _ h => h
  · exact fun _ h => h
mutual
theorem setn_fixT (c : Int → Nat) : ∀ t : T, ∀ n ∈ setn (fixT c t), n ∈ setn t
  | .setl k v, n, h => by
    rcases List.mem_cons.mp h with rfl | h
    · exact .head _
    · exact .tail _ (setn_fixT c v n h)
  | .lam l ps b, n, h => setn_fixT c b n h
  | .call f xs, n, h => by
    have h1 := setn_turn c (.call (fixT c f) (fixTs c xs)) n h
    rcases List.mem_append.mp h1 with h1 | h1
    · exact List.mem_append_left _ (setn_fixT c f n h1)
    · exact List.mem_append_right _ (setn_fixTs c xs n h1)
  | .seq xs, n, h => setn_fixTs c xs n h
  | .fix ns ls b, n, h => by
    rcases List.mem_append.mp h with h1 | h1
    · exact List.mem_append_left _ (setn_fixTs c ls n h1)
    · exact List.mem_append_right _ (setn_fixT c b n h1)
  | .cint i, n, h => h
  | .cun, n, h => h
  | .loc k, n, h => h
  | .glob k, n, h => h
theorem setn_fixTs (c : Int → Nat) : ∀ l : List T, ∀ n ∈ setns (fixTs c l), n ∈ setns l
  | [], n, h => h
  | t :: r, n, h => by
    rcases List.mem_append.mp h with h1 | h1
    · exact List.mem_append_left _ (setn_fixT c t n h1)
    · exact List.mem_append_right _ (setn_fixTs c r n h1)
end
theorem setOk_of {cn : Int → Nat} {t : T} (h : ∀ n ∈ setn t, cn n ≠ 0) : SetOk cn t := by
  unfold SetOk
  split
  · rename_i l ps items xs
    rintro t ht n v rfl
    exact h n (List.mem_append_left _ (setns_mem ht n (.head _)))
  · trivial
end Mine
end
section
namespace Mine
local macro_rules | `(tactic| k_mem) => `(tactic| with_reducible first | exact List.mem_cons_self | assumption | (refine List.mem_cons_of_mem _ ?_; k_mem))
local macro_rules | `(tactic| k_places) => `(tactic| with_reducible first | exact fun _ h => h | assumption | (intro p hp; k_mem))
local macro_rules | `(tactic| kat_tups) => `(tactic| with_reducible first | exact List.mem_cons_self | (refine List.mem_cons_of_mem _ ?_; kat_tups))
local macro_rules | `(tactic| keq_rows) => `(tactic| with_reducible first | refine LocQ.here ?_ | (refine LocQ.there ?_; keq_rows))
local macro_rules | `(tactic| keq_hits) => `(tactic| with_reducible first | refine SetQ.here ?_ | refine SetQ.hereN ?_ | (refine SetQ.there ?_; keq_hits) | (refine SetQ.thereN ?_; keq_hits))
local macro_rules | `(tactic| fold_lay) => `(tactic| (refine enter (K := hd.heap_39 _) rfl (by assumption) (by k_is) (by k_is) (by omega) (by exact BindsTo.of_eq rfl) (by exact rfl) (by kernel_rfl) ?_ (by assumption)))
local macro_rules | `(tactic| k_allIn) => `(tactic| with_reducible first | exact sl0 | exact sl1 | exact sl2 | exact sl3 | exact sl4)
local macro_rules | `(tactic| k_ownIn) => `(tactic| with_reducible first | exact tl0 | exact tl1 | exact tl2 | exact tl3 | exact Nat.le_trans (Nat.le_of_eq (IntsAre.length (by assumption))) (by assumption))
local macro_rules | `(tactic| k_subL) => `(tactic| with_reducible first | exact g_CONST _ | exact g_LOCAL _ | exact g_GLOBAL _ | exact g_SET_LOCAL _ | exact g_SET_GLOBAL _ | exact g_DEFINE _ | exact g_LAMBDA _ | exact g_CALL _ | exact g_SEQ _ | exact g_PRIM _ | exact g_FIX _ | exact g_TOP _ | exact g_UNASSIGNED _ | exact g_Const _ | exact g_Local _ | exact g_Global _ | exact g_SetLocal _ | exact g_Lambda _ | exact g_Call _ | exact g_Seq _ | exact g_Fix _ | exact g_are_same_list _ | exact g_rebuilt _ | exact g_let_node _ | exact g_is_let _ | exact g_seq_of _ | exact g_Facts _ | exact g_count_in _ | exact g_note_node _ | exact g_facts_of _ | exact g_Pair _ | exact g_is_unassigned _ | exact g_begun_late _ | exact g_Fixing _ | exact g_fixed _ | exact g_law_draw _ | exact g_law_deck_of _ | exact g_law_one _ | exact g_law_new _ | exact g_law_told _ | exact g_law_value_of _ | exact g_law_late _ | exact g_law_times_set _ | exact g_law_due_of _ | exact kp_Const _ | exact kp_Local _ | exact kp_Global _ | exact kp_SetLocal _ | exact kp_Lambda _ | exact kp_Call _ | exact kp_Seq _ | exact kp_Fix _ | exact kp_are_same_list _ | exact kp_rebuilt _ | exact kp_let_node _ | exact kp_is_let _ | exact kp_seq_of _ | exact kp_Facts _ | exact kp_count_in _ | exact kp_note_node _ | exact kp_facts_of _ | exact kp_Pair _ | exact kp_is_unassigned _ | exact kp_begun_late _ | exact kp_Fixing _ | exact kp_fixed _ | exact kp_law_draw _ | exact kp_law_deck_of _ | exact kp_law_one _ | exact kp_law_new _ | exact kp_law_told _ | exact kp_law_value_of _ | exact kp_law_late _ | exact kp_law_times_set _ | exact kp_law_due_of _ | exact gn_len _ | exact gn_range _ | exact gn_tuple _ | exact gn_isinstance _ | exact gn_int _ | exact gn_bool _ | exact gn_repr _ | exact gn_list _ | exact gn_zip _ | exact gn_abs _ | exact gn_sum _ | exact bt_len | exact bt_isinstance | exact bt_repr | exact bt_abs | exact bt_sum | exact bt_ne_len | exact ne_isinstance | exact ne_repr | exact bt_ne_abs | exact bt_ne_sum | exact bt_ne_range | exact bt_ne_tuple | exact bt_ne_list | exact bt_ne_zip | exact ne_int | exact bt_range | exact bt_tuple | exact bt_list | exact bt_zip | exact bt_int)
local macro_rules | `(tactic| k_clsL) => `(tactic| with_reducible first
  | ((show wpAny _ _ (eval (Expr.Name _ _) _) _ _ _); first
    | (refine ev_loc (by assumption) (by assumption) ?_; keq_rows)
    | refine ev_glob (by assumption) (by assumption) (by k_subL) (by kat_tups) ?_
    | refine ev_cell (by assumption) (by assumption) (by k_dflt rfl) (by k_mem) (by assumption) (by kat_tups) ?_
    | refine ev_bi (by assumption) (by assumption) (by k_subL) (by k_subL) (by k_subL) (by kat_tups) ?_)
  | ((show wpAny _ _ (eval (Expr.Constant _ _ _) _) _ _ _); first
    | (refine ev_int (by assumption) ?_; intro s' tk' S')
    | (refine ev_str (by assumption) ?_; intro s' tk' S')
    | refine PyProof.Rows.Constant_bool ?_)
  | ((show wpAny _ _ (eval (Expr.Attribute _ _ _) _) _ _ _); refine Attribute_any_ ?_ (by k_dflt rfl))
  | ((show wpAny _ _ (eval (Expr.Call (Expr.Name _ _) [_] [] _) _) _ _ _); first
    | refine call1 (by assumption) (by assumption) (by k_subL) (by k_subL) (by kat_tups) ?_ (by k_dflt rfl)
    | refine callB1 (by assumption) (by assumption) (by k_subL) (by k_subL) (by k_subL) (by kat_tups) ?_ (by k_dflt rfl)
    | refine callT (by assumption) (by assumption) (by k_subL) (by k_subL) (by k_subL) (by kat_tups) ?_ (by k_dflt rfl))
  | ((show wpAny _ _ (eval (Expr.Call (Expr.Name _ _) [_, _] [] _) _) _ _ _); first
    | refine call2 (by assumption) (by assumption) (by k_subL) (by k_subL) (by kat_tups) ?_ (by k_dflt rfl) (by k_dflt rfl)
    | refine callB2 (by assumption) (by assumption) (by k_subL) (by k_subL) (by k_subL) (by kat_tups) ?_ (by k_dflt rfl) (by k_dflt rfl)
    | refine callT2 (by assumption) (by assumption) (by k_subL) (by k_subL) (by k_subL) (by kat_tups) ?_ (by k_dflt rfl) (by k_dflt rfl))
  | ((show wpAny _ _ (eval (Expr.Call (Expr.Name _ _) [_, _, _] [] _) _) _ _ _); refine call3 (by assumption) (by assumption) (by k_subL) (by k_subL) (by kat_tups) ?_ (by k_dflt rfl) (by k_dflt rfl) (by k_dflt rfl))
  | ((show wpAny _ _ (eval (Expr.Call (Expr.Name _ _) [_, _, _, _] [] _) _) _ _ _); refine call4 (by assumption) (by assumption) (by k_subL) (by k_subL) (by kat_tups) ?_ (by k_dflt rfl) (by k_dflt rfl) (by k_dflt rfl) (by k_dflt rfl))
  | ((show wpAny _ _ (eval (Expr.Call (Expr.Attribute _ _ _) _ [] _) _) _ _ _); refine MethodCall_ ?_ (by k_dflt rfl))
  | ((show wpAny _ _ (eval (Expr.BoolOp _ _ _) _) _ _ _); first | refine BoolOp_and ?_ | refine BoolOp_or ?_ | refine BoolOp_one ?_)
  | ((show wpAny _ _ (eval (Expr.Compare _ _ _ _) _) _ _ _); refine wpAny_Compare1 ?_ (by k_dflt rfl))
  | ((show wpAny _ _ (eval (Expr.UnaryOp _ _ _) _) _ _ _); refine UnaryOp_ ?_)
  | ((show wpAny _ _ (eval (Expr.Subscript _ _ _) _) _ _ _); refine Subscript_ ?_)
  | ((show wpAny _ _ (eval (Expr.Tuple _ _ _) _) _ _ _); refine Tuple_ ?_)
  | ((show wpAny _ _ (eval (Expr.List _ _ ) _) _ _ _); refine List_ ?_)
  | ((show wpAny _ _ (eval (Expr.BinOp _ _ _ _) _) _ _ _); refine wpAny_BinOp ?_)
  | ((show wpAny _ _ (eval (Expr.Slice _ _ _ _) _) _ _ _); refine wpAny_Slice ?_)
  | ((show wpAny _ _ (eval (Expr.IfExp _ _ _ _) _) _ _ _); refine IfExp_ ?_)
  | ((show wpAny _ _ (exec _ _) _ _ _); first
    | refine wpAny_If ?_
    | refine wpAny_Assign_Name ?_ (by k_dflt rfl)
    | refine wpAny_Return_some ?_
    | refine wpAny_Assign_Subscript ?_ (by k_dflt rfl)
    | refine wpAny_Expr_any ?_ (by k_dflt rfl) (by k_dflt rfl)
    | refine plainObj_wpAny_Assign_Attribute ?_ (by k_dflt rfl))
  | ((show wpAny _ _ (compareOp _ _ _) _ _ _); first
    | refine eq_int_ff (by k_dflt rfl) ?_
    | refine eq_int_tt (by k_dflt rfl) ?_
    | refine in_tup_ff (by assumption) (by k_mem) (.cons _ _ (.cons _ _ .nil)) (by k_dflt rfl) ?_
    | refine in_tup_tt (by assumption) (by k_mem) (.cons _ _ (.cons _ _ .nil)) (by k_dflt rfl) ?_
    | refine wpAny_is_ref_self ?_
    | refine is_int_ref ?_
    | refine PySem.P.lt_int ?_
    | refine PySem.P.gt_int ?_
    | refine eq_int ?_
    | refine ne_int_ff (by k_dflt rfl) ?_
    | refine ne_int_tt (by k_dflt rfl) ?_)
  | ((show wpAny _ _ (getAttr _ _ _) _ _ _); first
    | (refine at_kind (by assumption) (by assumption) (by k_places) (by first | assumption | exact rfl) ?_; intro s' tk' S')
    | (refine at_setl_value (by assumption) (by assumption) (by k_places) ?_; intro s' v' S' hv')
    | (refine at_call_operator (by assumption) (by assumption) (by k_places) ?_; intro s' v' S' hv')
    | (refine at_call_operands (by assumption) (by assumption) (by k_places) ?_; intro s' l' vs' e' S' hl' hvs')
    | (refine at_seq_items (by assumption) (by assumption) (by k_places) ?_; intro s' l' vs' e' S' hl' hvs')
    | (refine at_lam_body (by assumption) (by assumption) (by k_places) ?_; intro s' v' S' hv')
    | (refine at_setl_number (by assumption) (by assumption) (by k_places) ?_; intro s' tk' S')
    | (refine at_cint (by assumption) (by assumption) (by k_places) ?_; intro s' tk' S')
    | (refine at_cun (by assumption) (by assumption) (by k_places) ?_; intro s' S')
    | (refine at_loc (by assumption) (by assumption) (by k_places) ?_; intro s' tk' S')
    | (refine at_glob (by assumption) (by assumption) (by k_places) ?_; intro s' tk' S')
    | (refine at_lam_label (by assumption) (by assumption) (by k_places) ?_; intro s' tk' S')
    | (refine at_lam_rest (by assumption) (by assumption) (by k_places) ?_; intro s' tk' S')
    | (refine at_lam_params (by assumption) (by assumption) (by k_places) ?_; intro s' pl' vs' e' S' hp' hi')
    | (refine at_fix_numbers (by assumption) (by assumption) (by k_places) ?_; intro s' pl' vs' e' S' hp' hi'))
  | ((show wpAny _ _ (getMethod _ _ _) _ _ _); first
    | refine lmeth (by assumption) (by k_mem) PySem.F.slot_list_pop PySem.F.type_list_pop ?_
    | refine lmeth (by assumption) (by k_mem) PySem.F.slot_list_append PySem.F.type_list_append ?_
    | refine lmeth (by assumption) (by k_mem) PySem.F.slot_list_insert PySem.F.type_list_insert ?_)
  | ((show wpAny _ _ (callWith _ _ _ _ _) _ _ _); first
    | refine callWith_method1 ?_ (by k_dflt rfl) (by k_dflt rfl)
    | refine callWith_method0 ?_)
  | ((show wpAny _ _ (call _ _) _ _ _); first
    | (refine tuple_of (by assumption) (by k_mem) (by k_ownIn) ?_; intro D' s' S')
    | (refine isi_int (by assumption) (by k_mem) ?_; intro s' S')
    | (refine isi_un (by assumption) (by k_mem) ?_; intro s' S')
    | (refine isi_pair (by assumption) ?_; intro s' S')
    | (refine rp_int (by assumption) ?_; intro s' tk' S'))
  | ((show wpAny _ _ (PySem.isTrue _ _ _) _ _ _); first
    | refine wpAny_isTrue_Compare1 ?_ (by k_dflt rfl)
    | refine isTrue_and ?_
    | refine isTrue_and_nil ?_
    | refine isTrue_or ?_
    | refine isTrue_or_nil ?_
    | refine isTrue_not ?_
    | refine isTrue_plain ?_ (by k_dflt rfl))
  | ((show wpAny _ _ (binaryOp _ _ _) _ _ _); first
    | (refine addS (by assumption) ?_; intro s' tk' S')
    | (refine subS (by assumption) ?_; intro s' tk' S'))
  | ((show wpAny _ _ (unaryOp _ _) _ _ _); refine negS (by assumption) ?_; intro s' tk' S')
  | ((show wpAny _ _ (subscriptTail _ _ _ _) _ _ _); first
    | refine own0 (by assumption) (by decide) (by decide) (by k_dflt rfl) ?_ (by k_dflt rfl))
  | ((show wpAny _ _ (PySem.setItem _ _ _) _ _ _); first
    | (refine set0 (by assumption) ?_; intro s' S')
    | (refine set1 (by assumption) ?_; intro s' S'))
  | ((show _ ∧ wpAny _ _ _ _ _ _); refine And.intro (St.kin (by assumption)) ?_)
  | ((show wpAny _ _ (PySem.evalPart _ _) _ _ _); first | refine evalPart_none_step ?_ | refine evalPart_some_step ?_)
  | refine wpAny_execs_cons ?_
  | refine sp1 ?_ (by k_dflt rfl)
  | refine sp0 ?_
  | refine wpAny_truthy_bool ?_
  | refine ite_ff ?_
  | refine ite_tt ?_
  | refine ite_dt (by k_dflt rfl) ?_
  | refine ite_df (by k_dflt rfl) ?_
  | (refine st_loc (by assumption) (by assumption) ?_; keq_hits; intro s' S')
  | (refine nl_flag (by assumption) (by assumption) ?_ (by k_allIn); intro l' s' S')
  | (refine nl (by assumption) ?_ (by k_allIn); intro l' s' S')
  | (refine nt (by assumption) ?_ (by k_allIn); intro l' s' S')
  | refine wpAny_execs_nil ?_
  )
local macro_rules | `(tactic| k_offL) => `(tactic| repeat k_clsL)

def Refs (w : World) (P : Led) (v : Value) : Prop := ∃ a t, v = .ref a ∧ Nd w P a t
theorem Nd.inst {w : World} {P : Led} {a : Addr} {t : T} (h : Nd w P a t) : ∃ C d, (a, instObj C d) ∈ P := by
  cases h <;> exact ⟨_, _, by assumption⟩
theorem isnot_refs {w : World} {c : Cx} {m : Str → Option Value} {own P : Led} {s : Shared} {E Q : Value → Shared → Prop} {u v : Value} (S : St w c m own P s) (hu : Refs w P u) (hv : Refs w P v) (h1 : u = v → Q (.bool false) s) (h2 : u ≠ v → Q (.bool true) s) :
    wpAny (model PySem.Challenge.rw_pq1024_01.row.prog w) c.A (compareOp .IsNot u v) Q E s := by
  obtain ⟨x, t, rfl, hx⟩ := hu
  obtain ⟨y, t', rfl, hy⟩ := hv
  by_cases e : x = y
  · subst e; exact wpAny_isNot_ref_self (h1 rfl)
  · obtain ⟨C, d, hx⟩ := hx.inst
    obtain ⟨C', d', hy⟩ := hy.inst
    exact wpAny_isNot_ref_other e (S.inP hx) (S.inP hy) (by simp [instObj]) (h2 (fun q => e (by injection q)))
section
variable {w : World} {P : Led}
theorem same_list {l1 l2 : Addr} {us vs : List Value} {e1 e2 : Nat} (h1 : (l1, listOf us.toArray e1) ∈ P) (h2 : (l2, listOf vs.toArray e2) ∈ P) (hu : ∀ v ∈ us, Refs w P v) (hv : ∀ v ∈ vs, Refs w P v) (hz : us.length ≤ 4000) (hz2 : vs.length ≤ 4000) :
    Pure w 4 P (call (.ref 292) [.ref l1, .ref l2]) fun _ r => r = .bool (decide (us = vs)) := by
  intro c m own s Q E S hdp hu0 ret
  have X := S.X
  refine wpAny_call ?_
  fold_lay
  clear ret S
  intro c' s' gN hd' hu' S'
  dsimp only [List.map] at S'
  clear hdp hu0 hd' hu'
  k_offL
  refine len_P (by assumption) h1 (by omega) ?_
  intro s1 tk1 S1
  k_offL
  refine len_P (by assumption) h2 (by omega) ?_
  intro s2 tk2 S2
  k_offL
  refine PyProof.Rows.ne_int ?_
  k_offL
  refine ifB (fun hb => ?_) (fun hb => ?_)
  · k_offL
    refine ⟨_, [], [], P, by assumption, fun _ h => h, (by rfl), ?_⟩
    have : ¬ us = vs := fun h => by rw [h] at hb; exact absurd hb (by simp)
    rw [decide_eq_false this]
  have hll : us.length = vs.length := by have := bne_eq_false_iff_eq.mp hb; omega
  k_offL
  refine For_ (by assumption) ?_ (by k_dflt exact fun _ => rfl)
  k_offL
  refine len_P (by assumption) h1 (by omega) ?_
  intro s3 tk3 S3
  k_offL
  refine forR (vals := [some (.ref l1), some (.ref l2), none]) (k := us.length) (St.pad 1 (vs := [some (.ref l1), some (.ref l2)]) (by assumption)) gN rfl (by omega) (fun i vals₁ own₁ P₁ => ∃ v1, vals₁ = [some (.ref l1), some (.ref l2), v1] ∧ own₁ = [] ∧ (∀ p ∈ P, p ∈ P₁) ∧ us.take i = vs.take i) ⟨none, rfl, rfl, fun _ h => h, rfl⟩ ?_ ?_
  · rintro i ti vals₁ own₁ P₁ P₁' W s₁ hi ⟨v1, rfl, rfl, hP1, htk⟩ S hs
    keq_hits
    intro s4 S4
    have h1' := hs _ (hP1 _ h1)
    have h2' := hs _ (hP1 _ h2)
    obtain ⟨u, hu1⟩ : ∃ v, us[i]? = some v := ⟨us[i], by simp [hi]⟩
    obtain ⟨v, hv1⟩ : ∃ v, vs[i]? = some v := ⟨vs[i]'(by omega), by simp⟩
    k_offL
    refine li_item (St.isListP (by assumption) h1') (by omega) (by omega) (by simpa using hu1) ?_ (by k_dflt rfl)
    k_offL
    refine li_item (St.isListP (by assumption) h2') (by omega) (by omega) (by simpa using hv1) ?_ (by k_dflt rfl)
    have mo : ∀ v, Refs w P v → Refs w P₁' v := fun v ⟨a, t, e, h⟩ => ⟨a, t, e, h.mono fun p hp => hs _ (hP1 _ hp)⟩
    refine isnot_refs (by assumption) (mo _ (hu _ (List.mem_of_getElem? hu1))) (mo _ (hv _ (List.mem_of_getElem? hv1))) (fun e => ?_) (fun e => ?_)
    · subst e
      k_offL
      refine ⟨_, [], P₁', by assumption, fun _ h => h, _, rfl, rfl, fun p hp => hs _ (hP1 _ hp), ?_⟩
      rw [List.take_add_one, List.take_add_one, htk, hu1, hv1]
    · k_offL
      refine ⟨_, [], W, P₁', by assumption, fun p hp => hs _ (hP1 _ hp), (by rfl), ?_⟩
      have : ¬ us = vs := fun h => e (by rw [h, hv1] at hu1; exact (Option.some.inj hu1).symm)
      rw [decide_eq_false this]
  · rintro vals' own' P' s4 S4 ⟨v1, rfl, rfl, hP1, htk⟩
    dsimp only
    k_offL
    refine ⟨_, [], [], P', by assumption, hP1, (by rfl), ?_⟩
    rw [List.take_length] at htk
    have : us = vs := by rw [htk, hll, List.take_length]
    rw [decide_eq_true this]
def withFn : T → Addr
  | .setl _ _ => 134 | .lam _ _ _ => 167 | .call _ _ => 214 | .seq _ => 247 | .fix _ _ _ => 280 | _ => 42
theorem with_of {a l : Addr} {t : T} {vs : List Value} {e : Nat} {ts : List T} (h : Nd w P a t) (hl : (l, listOf vs.toArray e) ∈ P) (hv : Nds w P vs ts) (hn : ts.length = t.kids.length) (hk : t.kids ≠ []) (hf : noFix t = true) (hz : ts.length ≤ 4000) :
    Pure w 6 P (call (.ref (withFn t)) [.ref a, .ref l]) fun P' r => TR w P' r (t.wk ts) := by
  intro c m own s Q E S hdp hu0 ret
  have X := S.X
  have d3 : c.A.depth + 1 + 3 < recursionLimit := by omega
  have u3 : c.A.units + 3 + 8 * 3 < cLine := by omega
  have hvl := hv.length
  cases t
  case cint | cun | loc | glob => exact absurd rfl hk
  case fix => cases hf
  case setl n v =>
    obtain ⟨t1, rfl⟩ : ∃ t1, ts = [t1] := List.length_eq_one_iff.mp hn
    cases hv with
    | cons hv1 hr =>
    cases hr
    dsimp only [withFn]
    refine wpAny_call ?_
    fold_lay
    clear ret S
    intro c' s' gN hd' hu' S'
    dsimp only [List.map] at S'
    k_offL
    refine li_item (St.isListP (by assumption) hl) (by decide) (by decide) rfl ?_ (by k_dflt rfl)
    k_offL
    refine useP (mk_setl ⟨_, rfl, hv1⟩) (by assumption) (by omega) (by omega) ?_
    intro r P3 s3 S3 hs3 hT
    exact ⟨_, [], [], P3, S3, hs3, (by rfl), hT⟩
  case lam n ps v =>
    obtain ⟨t1, rfl⟩ : ∃ t1, ts = [t1] := List.length_eq_one_iff.mp hn
    cases hv with
    | cons hv1 hr =>
    cases hr
    dsimp only [withFn]
    refine wpAny_call ?_
    fold_lay
    clear ret S
    intro c' s' gN hd' hu' S'
    dsimp only [List.map] at S'
    k_offL
    refine li_item (St.isListP (by assumption) hl) (by decide) (by decide) rfl ?_ (by k_dflt rfl)
    refine ⟨St.kin (by assumption), ?_⟩
    refine useP (mk_lam (by assumption) (by assumption) ⟨_, rfl, hv1⟩) (by assumption) (by omega) (by omega) ?_
    intro r P3 s3 S3 hs3 hT
    exact ⟨_, [], [], P3, S3, hs3, (by rfl), hT⟩
  case call f xs =>
    cases hv with
    | nil => cases hn
    | cons hv1 hr =>
    dsimp only [withFn]
    refine wpAny_call ?_
    fold_lay
    clear ret S
    intro c' s' gN hd' hu' S'
    dsimp only [List.map] at S'
    k_offL
    refine li_item (St.isListP (by assumption) hl) (by decide) (by decide) rfl ?_ (by k_dflt rfl)
    k_offL
    refine slice_up (by assumption) (St.isListP (by assumption) hl) (.int _ _) .none (pick_from (by decide)) (by omega) ?_ (by k_dflt rfl) (by k_dflt exact fun _ => rfl)
    intro Ds s7 S7
    k_offL
    refine useP (mk_call ⟨_, rfl, hv1.mono fun p hp => .tail _ hp⟩ (.head _) (hr.mono fun p hp => .tail _ hp)) (by assumption) (by omega) (by omega) ?_
    intro r P3 s3 S3 hs3 hT
    exact ⟨_, [], [], P3, S3, fun p hp => hs3 _ (.tail _ hp), (by rfl), hT⟩
  case seq xs =>
    dsimp only [withFn]
    refine wpAny_call ?_
    fold_lay
    clear ret S
    intro c' s' gN hd' hu' S'
    dsimp only [List.map] at S'
    k_offL
    refine useP (mk_seq hl hv) (by assumption) (by omega) (by omega) ?_
    intro r P3 s3 S3 hs3 hT
    exact ⟨_, [], [], P3, S3, hs3, (by rfl), hT⟩
end
end Mine
end
section
namespace Mine
section
variable {w : World} {c : Cx} {m : Str → Option Value} {own P P₀ : Led} {s : Shared} {E Q : Value → Shared → Prop}
theorem slice_upO {value slice : Expr} {l : Addr} {xs zs : List Value} {vl vu : Value} {lo hi : Option Int} (S : St w c m own P s) (hl : s.heap.IsList l xs.toArray) (pl : IsPart vl lo) (pu : IsPart vu hi) (e : kms_pick xs lo hi = zs) (hz : xs.length ≤ 1000000)
    (h : ∀ D s', St w c m ((D, listOf zs.toArray 0) :: own) P s' → Q (.ref D) s')
    (hs : subscripted slice false (.ref l) (.ref s.heap.objs.size) = operate [.ref s.heap.objs.size, .ref l] (getItem (.ref l) (.ref s.heap.objs.size))) (ht : ∀ r, letTemporaryGo value (.ref l) r = pure ()) :
    wpAny (model PySem.Challenge.rw_pq1024_01.row.prog w) c.A (subscriptTail value slice (.ref l) (.ref s.heap.objs.size)) Q E { s with heap := s.heap.push { cls := .type "slice", data := .fields #[vl, vu, .none] } } :=
  kms_slice_lit S.F S.N hl pl pu e (fun D h' F' N' lt => h D _ (S.addO (tk := s.toks) F' N' lt)) hs ht (by rw [List.size_toArray]; exact fits_le hz)
theorem callLM {cn : Str} {a : Addr} {ccd : Value} {cl : List (Str × Addr)} {ns : List (Str × NameKind)} {mo : List (Str × Const)} {vals : List (Option Value)} {x : Str} {px pos : Pos} {q f : Addr} {self : Value} {e1 : Expr} (S : St w c (asg ns vals) own P s) (g0 : goodNs ns = true) (hl : LocQ ns vals x (fun v => v = .ref q)) (hq : (q, methodObj (.ref f) self) ∈ P) (hf : fnIn (hd.heap_39 w.params) f = true)
    (h : wpAny (model PySem.Challenge.rw_pq1024_01.row.prog w) c.A (eval e1 (envX cn (fnSc ns mo) c.L a ccd cl)) (fun v s1 => MethP (hd.heap_39 w.params) q f self s1.heap ∧ wpAny (model PySem.Challenge.rw_pq1024_01.row.prog w) c.A (call (.ref q) [v]) Q E s1) E s)
    (he1 : starEach [e1] (envX cn (fnSc ns mo) c.L a ccd cl) = [(false, eval e1 (envX cn (fnSc ns mo) c.L a ccd cl))]) :
    wpAny (model PySem.Challenge.rw_pq1024_01.row.prog w) c.A (eval (.Call (.Name x px) [e1] [] pos) (envX cn (fnSc ns mo) c.L a ccd cl)) Q E s := by
  obtain ⟨v, hl, rfl⟩ := hl
  exact Call_ (ev_loc S g0 ⟨_, hl, callWith_M S.X S.N (List.mem_append_right _ hq) hf (args_cons (wpAny_mono h (fun v s1 h1 => args_nil h1) fun _ _ e => e) he1) he1 rfl⟩)
theorem call_bm {q f : Addr} {self v : Value} {k : Nat} {Out : Led → Value → Prop} (S : St w c m own P s) (hq : (q, methodObj (.ref f) self) ∈ P) (h : PureC w k P f [self, v] Out) (hd : c.A.depth + k < recursionLimit) (hu : c.A.units + 8 * k < cLine) (ret : ∀ r P' s', St w c m own P' s' → (∀ p ∈ P, p ∈ P') → Out P' r → Q r s') :
    wpAny (model PySem.Challenge.rw_pq1024_01.row.prog w) c.A (call (.ref q) [v]) Q E s :=
  call_meth S.N (List.mem_append_right _ hq) (h c m own s Q E S hd hu ret)
theorem with_m {x : Addr} {t : T} {pl : Sem Bool} {pos : Pos} {env : Env} {e1 : Expr} (S : St w c m own P s) (h : Nd w P₀ x t) (hs : ∀ p ∈ P₀, p ∈ P) (hk : t.kids ≠ []) (hf : noFix t = true)
    (k : wpAny (model PySem.Challenge.rw_pq1024_01.row.prog w) c.A (eval e1 env) (fun v s1 => (hd.heap_39 w.params).In s1.heap ∧ wpAny (model PySem.Challenge.rw_pq1024_01.row.prog w) c.A (call (.ref (withFn t)) [.ref x, v]) Q E s1) E s) (he : starEach [e1] env = [(false, eval e1 env)]) :
    wpAny (model PySem.Challenge.rw_pq1024_01.row.prog w) c.A (getMethod (.ref x) (Str.ofString "with_parts") pl) (fun fx s₂ => wpAny (model PySem.Challenge.rw_pq1024_01.row.prog w) c.A (callWith pos fx.1 fx.2 (backTo pos (starEach [e1] env)) []) Q E s₂) E s := by
  have hN := h.mono hs
  cases hN with
  | cint h1 h2 => exact absurd rfl hk
  | cun h1 h2 => exact absurd rfl hk
  | loc h1 h2 => exact absurd rfl hk
  | glob h1 h2 => exact absurd rfl hk
  | setl h1 h2 h3 => exact meth1 S h1 h2 (pg_SetLocal w _) (fwp_SetLocal w) (isfn_134 w) rfl (kpf_134 w) k he
  | lam h1 h2 h3 h4 h5 => exact meth1 S h1 h2 (pg_Lambda w _) (fwp_Lambda w) (isfn_167 w) rfl (kpf_167 w) k he
  | call h1 h2 h3 h4 h5 => exact meth1 S h1 h2 (pg_Call w _) (fwp_Call w) (isfn_214 w) rfl (kpf_214 w) k he
  | seq h1 h2 h3 h4 => exact meth1 S h1 h2 (pg_Seq w _) (fwp_Seq w) (isfn_247 w) rfl (kpf_247 w) k he
  | fix h1 h2 h3 h4 h5 h6 h7 => cases hf
end
theorem fnin_491 (w : World) : fnIn (hd.heap_39 w.params) 491 = true := by kernel_rfl
/-! the stack of rebuilding -/
abbrev Stk := List (T × Bool)
def Good (cn : Int → Nat) (r : T) : Stk → List T → Prop
  | [], done => done = [r]
  | (t, false) :: ws, done => Good cn r ws (done ++ [fixT cn t])
  | (t, true) :: ws, done => ∃ d0, done = d0 ++ t.kids.map (fixT cn) ∧ Good cn r ws (d0 ++ [fixT cn t])
def mu : Stk → Nat
  | [] => 0
  | (t, false) :: ws => 2 * t.size + mu ws
  | (_, true) :: ws => 1 + mu ws
theorem good_kids {cn : Int → Nat} {r : T} {ws : Stk} : ∀ {ks : List T} {done : List T}, Good cn r ws (done ++ ks.map (fixT cn)) → Good cn r (ks.map (fun k => (k, false)) ++ ws) done
  | [], done, h => by simpa using h
  | k :: ks, done, h => by
    show Good cn r (ks.map (fun k => (k, false)) ++ ws) (done ++ [fixT cn k])
    exact good_kids (by simpa using h)
theorem mu_kids (ks : List T) (ws : Stk) : mu (ks.map (fun k => (k, false)) ++ ws) = 2 * sizes ks + mu ws := by
  induction ks with
  | nil => simp [sizes]
  | cons k ks ih => simp only [List.map_cons, List.cons_append, mu, ih, sizes]; omega
theorem len_mu : ∀ ws : Stk, ws.length ≤ mu ws
  | [] => Nat.le_refl _
  | (t, false) :: ws => by have := len_mu ws; have := size_pos t; simp only [mu, List.length_cons]; omega
  | (_, true) :: ws => by have := len_mu ws; simp only [mu, List.length_cons]; omega
/-- what the tree that is rebuilt keeps -/
structure OkT (cn : Int → Nat) (t : T) : Prop where
  sc : ∃ vis, Sc vis t
  st : ∀ n ∈ setn t, cn n ≠ 0
  sz : t.size ≤ 1990
theorem OkT.noFix {cn : Int → Nat} {t : T} (h : OkT cn t) : noFix t = true := by
  obtain ⟨vis, h⟩ := h.sc
  cases t <;> first | rfl | exact h.elim
theorem Scs_mem {vis : List Int} : ∀ {l : List T} {t : T}, Scs vis l → t ∈ l → Sc vis t
  | _ :: _, _, h, .head _ => h.1
  | _ :: _, _, h, .tail _ m => Scs_mem h.2 m
theorem sc_kid {vis : List Int} {t k : T} (h : Sc vis t) (hk : k ∈ t.kids) : ∃ vis', Sc vis' k := by
  cases t with
  | cint i => cases hk
  | cun => cases hk
  | loc n => cases hk
  | glob n => cases hk
  | setl n v => cases List.mem_singleton.mp hk; exact ⟨_, h.2⟩
  | lam l ps b => cases List.mem_singleton.mp hk; exact ⟨_, h⟩
  | call f xs =>
    rcases List.mem_cons.mp hk with rfl | hk
    · exact ⟨_, h.1⟩
    · exact ⟨_, Scs_mem h.2 hk⟩
  | seq xs => exact ⟨_, Scs_mem h hk⟩
  | fix ns ls b => exact h.elim
theorem OkT.kid {cn : Int → Nat} {t k : T} (h : OkT cn t) (hk : k ∈ t.kids) : OkT cn k := by
  obtain ⟨vis, hs⟩ := h.sc
  exact ⟨sc_kid hs hk, fun n hn => h.st n (setn_kid hk n hn), by have := size_kid hk; have := h.sz; omega⟩
theorem wk_size {c : Int → Nat} {t : T} (h : noFix t = true) : (t.wk (t.kids.map (fixT c))).size ≤ 2 * t.size := by
  cases t with
  | cint i => simp [T.wk, T.kids, T.size]
  | cun => simp [T.wk, T.kids, T.size]
  | loc n => simp [T.wk, T.kids, T.size]
  | glob n => simp [T.wk, T.kids, T.size]
  | setl n v => have := size_fixT c v; simp [T.wk, T.kids, T.size]; omega
  | lam l ps b => have := size_fixT c b; simp [T.wk, T.kids, T.size]; omega
  | call f xs => have h1 := size_fixT c f; have h2 := size_fixTs c xs; rw [fixTs_map] at h2; simp [T.wk, T.kids, T.size]; omega
  | seq xs => have h2 := size_fixTs c xs; rw [fixTs_map] at h2; simp [T.wk, T.kids, T.size]; omega
  | fix ns ls b => cases h
theorem wk_setn {c : Int → Nat} {t : T} (h : noFix t = true) : ∀ n ∈ setn (t.wk (t.kids.map (fixT c))), n ∈ setn t := by
  cases t with
  | cint i => exact fun _ h => h
  | cun => exact fun _ h => h
  | loc n => exact fun _ h => h
  | glob n => exact fun _ h => h
  | setl k v =>
    intro n hn
    rcases List.mem_cons.mp hn with rfl | hn
    · exact .head _
    · exact .tail _ (setn_fixT c v n hn)
  | lam l ps b => exact setn_fixT c b
  | call f xs =>
    intro n hn
    rcases List.mem_append.mp hn with hn | hn
    · exact List.mem_append_left _ (setn_fixT c f n hn)
    · exact List.mem_append_right _ (setn_fixTs c xs n (by rw [fixTs_map]; exact hn))
  | seq xs => exact fun n hn => setn_fixTs c xs n (by rw [fixTs_map]; exact hn)
  | fix ns ls b => cases h
def WR (w : World) (P : Led) (v : Value) (p : T × Bool) : Prop := ∃ T a e, v = .ref T ∧ (T, tupOf [.ref a, .bool p.2] e) ∈ P ∧ Nd w P a p.1
theorem WR.mono {w : World} (P P' : Led) (v : Value) (p : T × Bool) (hs : ∀ p ∈ P, p ∈ P') : WR w P v p → WR w P' v p := fun ⟨T, a, e, h1, h2, h3⟩ => ⟨T, a, e, h1, hs _ h2, h3.mono hs⟩
theorem All2.snoc_inv {δ : Type} {R : Value → δ → Prop} {d : δ} : ∀ {vs : List Value} {ds : List δ}, All2 R vs (ds ++ [d]) → ∃ vs' v, vs = vs' ++ [v] ∧ All2 R vs' ds ∧ R v d
  | _, [], .cons h .nil => ⟨[], _, rfl, .nil, h⟩
  | _, _ :: ds, .cons h r => by
    obtain ⟨vs', v, rfl, h1, h2⟩ := r.snoc_inv
    exact ⟨_ :: vs', v, rfl, .cons h h1, h2⟩
end Mine
end
section
namespace Mine
theorem All2.append2 {δ : Type} {R : Value → δ → Prop} : ∀ {vs us : List Value} {ds es : List δ}, All2 R vs ds → All2 R us es → All2 R (vs ++ us) (ds ++ es)
  | _, _, _, _, .nil, k => k
  | _, _, _, _, .cons h r, k => .cons h (r.append2 k)
theorem All2.reverse {δ : Type} {R : Value → δ → Prop} : ∀ {vs : List Value} {ds : List δ}, All2 R vs ds → All2 R vs.reverse ds.reverse
  | _, _, .nil => .nil
  | _, _, .cons h r => by rw [List.reverse_cons, List.reverse_cons]; exact r.reverse.snoc h
theorem Nds.refs {w : World} {P : Led} : ∀ {vs : List Value} {ts : List T}, Nds w P vs ts → ∀ v ∈ vs, Refs w P v
  | _, _, .cons h r, v, hv => by
    rcases List.mem_cons.mp hv with rfl | hv
    · exact ⟨_, _, rfl, h⟩
    · exact r.refs v hv
local macro_rules | `(tactic| k_mem) => `(tactic| with_reducible first | exact List.mem_cons_self | assumption | (refine List.mem_cons_of_mem _ ?_; k_mem))
local macro_rules | `(tactic| k_places) => `(tactic| with_reducible first | exact fun _ h => h | assumption | (intro p hp; k_mem))
local macro_rules | `(tactic| kat_tups) => `(tactic| with_reducible first | exact List.mem_cons_self | (refine List.mem_cons_of_mem _ ?_; kat_tups))
local macro_rules | `(tactic| keq_rows) => `(tactic| with_reducible first | refine LocQ.here ?_ | (refine LocQ.there ?_; keq_rows))
local macro_rules | `(tactic| keq_hits) => `(tactic| with_reducible first | refine SetQ.here ?_ | refine SetQ.hereN ?_ | (refine SetQ.there ?_; keq_hits) | (refine SetQ.thereN ?_; keq_hits))
local macro_rules | `(tactic| fold_lay) => `(tactic| (refine enter (K := hd.heap_39 _) rfl (by assumption) (by k_is) (by k_is) (by omega) (by exact BindsTo.of_eq rfl) (by exact rfl) (by kernel_rfl) ?_ (by assumption)))
local macro_rules | `(tactic| k_allIn) => `(tactic| with_reducible first | exact sl0 | exact sl1 | exact sl2 | exact sl3 | exact sl4)
local macro_rules | `(tactic| k_ownIn) => `(tactic| with_reducible first | exact tl0 | exact tl1 | exact tl2 | exact tl3 | exact Nat.le_trans (Nat.le_of_eq (IntsAre.length (by assumption))) (by assumption))
local macro_rules | `(tactic| k_subL) => `(tactic| with_reducible first | exact g_CONST _ | exact g_LOCAL _ | exact g_GLOBAL _ | exact g_SET_LOCAL _ | exact g_SET_GLOBAL _ | exact g_DEFINE _ | exact g_LAMBDA _ | exact g_CALL _ | exact g_SEQ _ | exact g_PRIM _ | exact g_FIX _ | exact g_TOP _ | exact g_UNASSIGNED _ | exact g_Const _ | exact g_Local _ | exact g_Global _ | exact g_SetLocal _ | exact g_Lambda _ | exact g_Call _ | exact g_Seq _ | exact g_Fix _ | exact g_are_same_list _ | exact g_rebuilt _ | exact g_let_node _ | exact g_is_let _ | exact g_seq_of _ | exact g_Facts _ | exact g_count_in _ | exact g_note_node _ | exact g_facts_of _ | exact g_Pair _ | exact g_is_unassigned _ | exact g_begun_late _ | exact g_Fixing _ | exact g_fixed _ | exact g_law_draw _ | exact g_law_deck_of _ | exact g_law_one _ | exact g_law_new _ | exact g_law_told _ | exact g_law_value_of _ | exact g_law_late _ | exact g_law_times_set _ | exact g_law_due_of _ | exact kp_Const _ | exact kp_Local _ | exact kp_Global _ | exact kp_SetLocal _ | exact kp_Lambda _ | exact kp_Call _ | exact kp_Seq _ | exact kp_Fix _ | exact kp_are_same_list _ | exact kp_rebuilt _ | exact kp_let_node _ | exact kp_is_let _ | exact kp_seq_of _ | exact kp_Facts _ | exact kp_count_in _ | exact kp_note_node _ | exact kp_facts_of _ | exact kp_Pair _ | exact kp_is_unassigned _ | exact kp_begun_late _ | exact kp_Fixing _ | exact kp_fixed _ | exact kp_law_draw _ | exact kp_law_deck_of _ | exact kp_law_one _ | exact kp_law_new _ | exact kp_law_told _ | exact kp_law_value_of _ | exact kp_law_late _ | exact kp_law_times_set _ | exact kp_law_due_of _ | exact gn_len _ | exact gn_range _ | exact gn_tuple _ | exact gn_isinstance _ | exact gn_int _ | exact gn_bool _ | exact gn_repr _ | exact gn_list _ | exact gn_zip _ | exact gn_abs _ | exact gn_sum _ | exact bt_len | exact bt_isinstance | exact bt_repr | exact bt_abs | exact bt_sum | exact bt_ne_len | exact ne_isinstance | exact ne_repr | exact bt_ne_abs | exact bt_ne_sum | exact bt_ne_range | exact bt_ne_tuple | exact bt_ne_list | exact bt_ne_zip | exact ne_int | exact bt_range | exact bt_tuple | exact bt_list | exact bt_zip | exact bt_int)
local macro_rules | `(tactic| k_clsL) => `(tactic| with_reducible first
  | ((show wpAny _ _ (eval (Expr.Name _ _) _) _ _ _); first
    | (refine ev_loc (by assumption) (by assumption) ?_; keq_rows)
    | refine ev_glob (by assumption) (by assumption) (by k_subL) (by kat_tups) ?_
    | refine ev_cell (by assumption) (by assumption) (by k_dflt rfl) (by k_mem) (by assumption) (by kat_tups) ?_
    | refine ev_bi (by assumption) (by assumption) (by k_subL) (by k_subL) (by k_subL) (by kat_tups) ?_)
  | ((show wpAny _ _ (eval (Expr.Constant _ _ _) _) _ _ _); first
    | (refine ev_int (by assumption) ?_; intro s' tk' S')
    | (refine ev_str (by assumption) ?_; intro s' tk' S')
    | refine PyProof.Rows.Constant_bool ?_)
  | ((show wpAny _ _ (eval (Expr.Attribute _ _ _) _) _ _ _); refine Attribute_any_ ?_ (by k_dflt rfl))
  | ((show wpAny _ _ (eval (Expr.Call (Expr.Name _ _) [_] [] _) _) _ _ _); first
    | refine call1 (by assumption) (by assumption) (by k_subL) (by k_subL) (by kat_tups) ?_ (by k_dflt rfl)
    | refine callB1 (by assumption) (by assumption) (by k_subL) (by k_subL) (by k_subL) (by kat_tups) ?_ (by k_dflt rfl)
    | refine callT (by assumption) (by assumption) (by k_subL) (by k_subL) (by k_subL) (by kat_tups) ?_ (by k_dflt rfl))
  | ((show wpAny _ _ (eval (Expr.Call (Expr.Name _ _) [_, _] [] _) _) _ _ _); first
    | refine call2 (by assumption) (by assumption) (by k_subL) (by k_subL) (by kat_tups) ?_ (by k_dflt rfl) (by k_dflt rfl)
    | refine callB2 (by assumption) (by assumption) (by k_subL) (by k_subL) (by k_subL) (by kat_tups) ?_ (by k_dflt rfl) (by k_dflt rfl)
    | refine callT2 (by assumption) (by assumption) (by k_subL) (by k_subL) (by k_subL) (by kat_tups) ?_ (by k_dflt rfl) (by k_dflt rfl))
  | ((show wpAny _ _ (eval (Expr.Call (Expr.Name _ _) [_, _, _] [] _) _) _ _ _); refine call3 (by assumption) (by assumption) (by k_subL) (by k_subL) (by kat_tups) ?_ (by k_dflt rfl) (by k_dflt rfl) (by k_dflt rfl))
  | ((show wpAny _ _ (eval (Expr.Call (Expr.Name _ _) [_, _, _, _] [] _) _) _ _ _); refine call4 (by assumption) (by assumption) (by k_subL) (by k_subL) (by kat_tups) ?_ (by k_dflt rfl) (by k_dflt rfl) (by k_dflt rfl) (by k_dflt rfl))
  | ((show wpAny _ _ (eval (Expr.Call (Expr.Attribute _ _ _) _ [] _) _) _ _ _); refine MethodCall_ ?_ (by k_dflt rfl))
  | ((show wpAny _ _ (eval (Expr.BoolOp _ _ _) _) _ _ _); first | refine BoolOp_and ?_ | refine BoolOp_or ?_ | refine BoolOp_one ?_)
  | ((show wpAny _ _ (eval (Expr.Compare _ _ _ _) _) _ _ _); refine wpAny_Compare1 ?_ (by k_dflt rfl))
  | ((show wpAny _ _ (eval (Expr.UnaryOp _ _ _) _) _ _ _); refine UnaryOp_ ?_)
  | ((show wpAny _ _ (eval (Expr.Subscript _ _ _) _) _ _ _); refine Subscript_ ?_)
  | ((show wpAny _ _ (eval (Expr.Tuple _ _ _) _) _ _ _); refine Tuple_ ?_)
  | ((show wpAny _ _ (eval (Expr.List _ _ ) _) _ _ _); refine List_ ?_)
  | ((show wpAny _ _ (eval (Expr.BinOp _ _ _ _) _) _ _ _); refine wpAny_BinOp ?_)
  | ((show wpAny _ _ (eval (Expr.Slice _ _ _ _) _) _ _ _); refine wpAny_Slice ?_)
  | ((show wpAny _ _ (eval (Expr.IfExp _ _ _ _) _) _ _ _); refine IfExp_ ?_)
  | ((show wpAny _ _ (exec _ _) _ _ _); first
    | refine wpAny_If ?_
    | refine wpAny_Assign_Name ?_ (by k_dflt rfl)
    | refine wpAny_Return_some ?_
    | refine wpAny_Assign_Subscript ?_ (by k_dflt rfl)
    | refine wpAny_Expr_any ?_ (by k_dflt rfl) (by k_dflt rfl)
    | refine plainObj_wpAny_Assign_Attribute ?_ (by k_dflt rfl))
  | ((show wpAny _ _ (compareOp _ _ _) _ _ _); first
    | refine eq_int_ff (by k_dflt rfl) ?_
    | refine eq_int_tt (by k_dflt rfl) ?_
    | refine in_tup_ff (by assumption) (by k_mem) (.cons _ _ (.cons _ _ .nil)) (by k_dflt rfl) ?_
    | refine in_tup_tt (by assumption) (by k_mem) (.cons _ _ (.cons _ _ .nil)) (by k_dflt rfl) ?_
    | refine wpAny_is_ref_self ?_
    | refine is_int_ref ?_
    | refine PySem.P.lt_int ?_
    | refine PySem.P.gt_int ?_
    | refine eq_int ?_
    | refine ne_int_ff (by k_dflt rfl) ?_
    | refine ne_int_tt (by k_dflt rfl) ?_)
  | ((show wpAny _ _ (getAttr _ _ _) _ _ _); first
    | (refine at_kind (by assumption) (by assumption) (by k_places) (by first | assumption | exact rfl) ?_; intro s' tk' S')
    | (refine at_setl_value (by assumption) (by assumption) (by k_places) ?_; intro s' v' S' hv')
    | (refine at_call_operator (by assumption) (by assumption) (by k_places) ?_; intro s' v' S' hv')
    | (refine at_call_operands (by assumption) (by assumption) (by k_places) ?_; intro s' l' vs' e' S' hl' hvs')
    | (refine at_seq_items (by assumption) (by assumption) (by k_places) ?_; intro s' l' vs' e' S' hl' hvs')
    | (refine at_lam_body (by assumption) (by assumption) (by k_places) ?_; intro s' v' S' hv')
    | (refine at_setl_number (by assumption) (by assumption) (by k_places) ?_; intro s' tk' S')
    | (refine at_cint (by assumption) (by assumption) (by k_places) ?_; intro s' tk' S')
    | (refine at_cun (by assumption) (by assumption) (by k_places) ?_; intro s' S')
    | (refine at_loc (by assumption) (by assumption) (by k_places) ?_; intro s' tk' S')
    | (refine at_glob (by assumption) (by assumption) (by k_places) ?_; intro s' tk' S')
    | (refine at_lam_label (by assumption) (by assumption) (by k_places) ?_; intro s' tk' S')
    | (refine at_lam_rest (by assumption) (by assumption) (by k_places) ?_; intro s' tk' S')
    | (refine at_lam_params (by assumption) (by assumption) (by k_places) ?_; intro s' pl' vs' e' S' hp' hi')
    | (refine at_fix_numbers (by assumption) (by assumption) (by k_places) ?_; intro s' pl' vs' e' S' hp' hi'))
  | ((show wpAny _ _ (getMethod _ _ _) _ _ _); first
    | refine lmeth (by assumption) (by k_mem) PySem.F.slot_list_pop PySem.F.type_list_pop ?_
    | refine lmeth (by assumption) (by k_mem) PySem.F.slot_list_append PySem.F.type_list_append ?_
    | refine lmeth (by assumption) (by k_mem) PySem.F.slot_list_insert PySem.F.type_list_insert ?_)
  | ((show wpAny _ _ (callWith _ _ _ _ _) _ _ _); first
    | refine callWith_method1 ?_ (by k_dflt rfl) (by k_dflt rfl)
    | refine callWith_method0 ?_)
  | ((show wpAny _ _ (call _ _) _ _ _); first
    | (refine tuple_of (by assumption) (by k_mem) (by k_ownIn) ?_; intro D' s' S')
    | (refine isi_int (by assumption) (by k_mem) ?_; intro s' S')
    | (refine isi_un (by assumption) (by k_mem) ?_; intro s' S')
    | (refine isi_pair (by assumption) ?_; intro s' S')
    | (refine rp_int (by assumption) ?_; intro s' tk' S'))
  | ((show wpAny _ _ (PySem.isTrue _ _ _) _ _ _); first
    | refine wpAny_isTrue_Compare1 ?_ (by k_dflt rfl)
    | refine isTrue_and ?_
    | refine isTrue_and_nil ?_
    | refine isTrue_or ?_
    | refine isTrue_or_nil ?_
    | refine isTrue_not ?_
    | refine isTrue_plain ?_ (by k_dflt rfl))
  | ((show wpAny _ _ (binaryOp _ _ _) _ _ _); first
    | (refine addS (by assumption) ?_; intro s' tk' S')
    | (refine subS (by assumption) ?_; intro s' tk' S'))
  | ((show wpAny _ _ (unaryOp _ _) _ _ _); refine negS (by assumption) ?_; intro s' tk' S')
  | ((show wpAny _ _ (subscriptTail _ _ _ _) _ _ _); first
    | refine own0 (by assumption) (by decide) (by decide) (by k_dflt rfl) ?_ (by k_dflt rfl))
  | ((show wpAny _ _ (PySem.setItem _ _ _) _ _ _); first
    | (refine set0 (by assumption) ?_; intro s' S')
    | (refine set1 (by assumption) ?_; intro s' S'))
  | ((show _ ∧ wpAny _ _ _ _ _ _); refine And.intro (St.kin (by assumption)) ?_)
  | ((show wpAny _ _ (PySem.evalPart _ _) _ _ _); first | refine evalPart_none_step ?_ | refine evalPart_some_step ?_)
  | refine wpAny_execs_cons ?_
  | refine sp1 ?_ (by k_dflt rfl)
  | refine sp0 ?_
  | refine wpAny_truthy_bool ?_
  | refine ite_ff ?_
  | refine ite_tt ?_
  | refine ite_dt (by k_dflt rfl) ?_
  | refine ite_df (by k_dflt rfl) ?_
  | (refine st_loc (by assumption) (by assumption) ?_; keq_hits; intro s' S')
  | (refine nl_flag (by assumption) (by assumption) ?_ (by k_allIn); intro l' s' S')
  | (refine nl (by assumption) ?_ (by k_allIn); intro l' s' S')
  | (refine nt (by assumption) ?_ (by k_allIn); intro l' s' S')
  | refine wpAny_execs_nil ?_
  )
local macro_rules | `(tactic| k_offL) => `(tactic| repeat k_clsL)

section
variable {w : World} {P : Led}
theorem rebuilt_c {a q x F : Addr} {t : T} {cn : Int → Nat} (hN : Nd w P a t) (hq : (q, methodObj (.ref 491) (.ref x)) ∈ P) (hx : FxObj w P x F) (hF : FSet w P F cn) (hok : OkT cn t) :
    Pure w 30 P (call (.ref 299) [.ref a, .ref q]) fun P' r => TR w P' r (fixT cn t) := by
  intro c m own s Q E S hdp hu ret
  have X := S.X
  refine wpAny_call ?_
  fold_lay
  clear ret S
  intro c' s' gN hd' hu' S'
  dsimp only [List.map] at S'
  have d20 : c'.A.depth + 20 < recursionLimit := by omega
  have u20 : c'.A.units + 8 * 20 < cLine := by omega
  have d2 : c'.A.depth + 2 < recursionLimit := by omega
  have u2 : c'.A.units + 16 < cLine := by omega
  have d4 : c'.A.depth + 4 < recursionLimit := by omega
  have u4 : c'.A.units + 8 * 4 < cLine := by omega
  have d6 : c'.A.depth + 6 < recursionLimit := by omega
  have u6 : c'.A.units + 8 * 6 < cLine := by omega
  clear hdp hu hd' hu'
  have flag : OwnFlag := ⟨trivial⟩
  k_offL
  clear flag
  rename_i Dn0 _ _ _ _ T0 _ _ Wt _ _ _ _
  refine cutN gN (fun ns f s' => f = .next ∧ ∃ Dn dv wv en ew v1 v2 v3 v4 v5 v6 P2, (∀ p ∈ P, p ∈ P2) ∧ St w c' (asg ns [some (.ref a), some (.ref q), some (.ref Dn), some (.ref Wt), v1, v2, v3, v4, v5, v6]) [(Wt, listOf (wv : List Value).toArray ew), (Dn, listOf (dv : List Value).toArray en)] P2 s' ∧ All2 (TR w P2) dv [fixT cn t]) ?_ ?_
  · refine whileR (fun k s => ∃ ws done Dn dv wv en ew v1 v2 v3 v4 v5 v6 P2, k = mu ws ∧ (∀ p ∈ P, p ∈ P2) ∧ St w c' (asg _ [some (.ref a), some (.ref q), some (.ref Dn), some (.ref Wt), v1, v2, v3, v4, v5, v6]) [(Wt, listOf (wv : List Value).toArray ew), (Dn, listOf (dv : List Value).toArray en)] P2 s ∧
      All2 (WR w P2) wv ws.reverse ∧ All2 (TR w P2) dv done ∧ Good cn (fixT cn t) ws done ∧ (∀ p ∈ ws, OkT cn p.1) ∧ mu ws + done.length ≤ 4000) ?_ (mu [(t, false)]) _
      ⟨[(t, false)], [], Dn0, [], [.ref T0], 0, 0, none, none, none, none, none, none, (T0, tupOf [.ref a, .bool false] 0) :: P, rfl, fun _ h => List.mem_cons_of_mem _ h, St.pad 6 (vs := [some (.ref a), some (.ref q), some (.ref Dn0), some (.ref Wt)]) (by assumption), .cons ⟨T0, a, 0, rfl, .head _, hN.mono fun _ h => List.mem_cons_of_mem _ h⟩ .nil, .nil, rfl, fun p hp => by rw [List.mem_singleton.mp hp]; exact hok, by have := hok.sz; simp [mu]; omega⟩
    rintro k s3 ⟨ws, done, Dn, dv, wv, en, ew, v1, v2, v3, v4, v5, v6, P2, rfl, hP2, S3, hwv, hdv, hg, hoks, hmu⟩
    have hwl := hwv.length
    have hdl := hdv.length
    have hlm := len_mu ws
    rw [List.length_reverse] at hwl
    k_offL
    refine len_O (by assumption) (by k_mem) (by omega) ?_
    intro s4 tk4 S4
    k_offL
    refine ifB (fun hb => ?_) (fun hb => ?_)
    rotate_left
    · have hws : ws = [] := List.length_eq_zero_iff.mp (by have := of_decide_eq_false hb; omega)
      subst hws
      k_offL
      refine ⟨rfl, _, _, _, _, _, _, _, _, _, _, _, P2, hP2, by assumption, ?_⟩
      have : done = [fixT cn t] := hg
      rw [← this]; exact hdv
    cases ws with
    | nil => exact absurd (of_decide_eq_true hb) (by simp [hwl])
    | cons p ws =>
    obtain ⟨t', fl⟩ := p
    rw [List.reverse_cons] at hwv
    obtain ⟨wv, v, rfl, hwv1, T1, b, eT, rfl, hT1, hNb⟩ := hwv.snoc_inv
    have hok' := hoks (t', fl) (.head _)
    have hoks' : ∀ p ∈ ws, OkT cn p.1 := fun p hp => hoks p (.tail _ hp)
    have hsz := hok'.sz
    rw [List.length_append, List.length_singleton] at hwl
    have hwsl : ws.length ≤ 4000 := by rw [List.length_cons] at hlm; omega
    k_clsL
    refine Assign_Tuple ?_ (by k_dflt rfl) (by k_dflt rfl)
    dsimp only at hok' hNb hT1 hsz
    k_offL
    refine popL (by assumption) (fits_le (by rw [List.length_append, List.length_singleton, hwl]; omega)) ?_
    intro s5 S5
    refine asgF_pair (a := .ref b) (b := .bool fl) S5 gN ⟨_, S5.inP hT1, rfl, _, rfl⟩ ?_
    keq_hits
    keq_hits
    intro s6 S6
    clear S3 S4 S5
    k_offL
    refine parts_m (by assumption) hNb (by k_places) (by omega) d2 u2 ?_
    intro lp pv ep P3 s7 S7 hs7 hlp hpv
    have hpl := hpv.length
    have hkl := len_kids t'
    have hN3 : Nd w P3 b t' := hNb.mono hs7
    have hx3 : FxObj w P3 x F := by obtain ⟨d, tf, a1, a2⟩ := hx; exact ⟨d, tf, hs7 _ (hP2 _ a1), hs7 _ (hP2 _ a2)⟩
    have hwv3 := hwv1.mono fun v p h => WR.mono _ _ v p hs7 h
    have hdv3 := hdv.mono fun v p h => TR.mono _ _ v p hs7 h
    iterate 3 k_clsL
    refine cutN gN (fun ns bb s' => bb = (!fl && decide (pv.length > 0)) ∧ St w c' (asg ns [some (.ref a), some (.ref q), some (.ref Dn), some (.ref Wt), some (.ref b), some (.bool fl), some (.ref lp), v4, v5, v6]) [(Wt, listOf wv.toArray (ew + 1)), (Dn, listOf dv.toArray en)] P3 s') ?_ ?_
    · k_offL
      refine ifB (fun hb => ?_) (fun hb => ?_)
      · k_offL
        refine len_P (by assumption) hlp (by omega) ?_
        intro s8 tk8 S8
        k_offL
        have e : decide (((pv.length : Nat) : Int) > 0) = decide (pv.length > 0) := by simp
        rw [e]
        refine ifB (fun hb2 => ?_) (fun hb2 => ?_)
        · k_offL
          exact ⟨by rw [hb, hb2]; rfl, by assumption⟩
        · exact ⟨by rw [hb, hb2]; rfl, by assumption⟩
      · exact ⟨by rw [hb]; rfl, by assumption⟩
    rintro bb s8 ⟨rfl, S8⟩
    clear S6 S7
    refine ifB (fun hb => ?_) (fun hb => ?_)
    · have hb' : fl = false ∧ pv.length > 0 := by
        rw [Bool.and_eq_true] at hb
        exact ⟨by simpa using hb.1, of_decide_eq_true hb.2⟩
      obtain ⟨rfl, hpp⟩ := hb'
      k_offL
      rename_i T2 _ _
      refine app (by assumption) (fits_le (by omega)) ?_
      intro s9 S9
      clear S8
      k_offL
      refine For_ (by assumption) ?_ (by k_dflt exact fun _ => rfl)
      k_offL
      refine slice_rev (by assumption) (St.isListP (by assumption) (by k_mem)) (by omega) ?_ (by k_dflt rfl) (by k_dflt exact fun _ => rfl)
      intro Dr s10 S10
      have hrev := (All2.ofNds' hpv).reverse
      refine forL S10 gN (.head _) (fun i vals₁ own₁ P₁ => ∃ wv2 e2 u4, vals₁ = [some (.ref a), some (.ref q), some (.ref Dn), some (.ref Wt), some (.ref b), some (.bool false), some (.ref lp), u4, v5, v6] ∧ own₁ = [(Wt, listOf (wv2 : List Value).toArray e2), (Dn, listOf dv.toArray en)] ∧ (∀ p ∈ P3, p ∈ P₁) ∧ All2 (WR w P₁) wv2 (ws.reverse ++ [(t', true)] ++ (t'.kids.reverse.take i).map (fun k => (k, false))))
        ⟨_, _, _, rfl, rfl, fun p hp => .tail _ (.tail _ hp), ?_⟩ ?_ ?_
      · rw [List.take_zero, List.map_nil, List.append_nil]
        have hP' : ∀ p ∈ P3, p ∈ (Dr, listOf pv.reverse.toArray 0) :: (T2, tupOf [.ref b, .bool true] 0) :: P3 := fun p hp => .tail _ (.tail _ hp)
        have hw0 : WR w ((Dr, listOf pv.reverse.toArray 0) :: (T2, tupOf [.ref b, .bool true] 0) :: P3) (.ref T2) (t', true) := ⟨T2, b, 0, rfl, .tail _ (.head _), hN3.mono hP'⟩
        exact (hwv3.mono fun v p h => WR.mono _ _ v p hP' h).snoc hw0
      · rintro i v vals₁ own₁ P₁ P₁' W s₁ hi hv ⟨wv2, e2, u4, rfl, rfl, hP4, hw2⟩ S hs
        obtain ⟨k, hk, xk, rfl, hNk⟩ := hrev.get hv
        have hw2l := hw2.length
        rw [List.length_reverse] at hi
        keq_hits
        intro s11 S11
        k_offL
        rename_i T3 _ _
        refine app (by assumption) (fits_le (by rw [hw2l]; simp; omega)) ?_
        intro s12 S12
        k_offL
        refine ⟨_, [_, _], _, S12, fun p hp => .tail _ hp, _, _, _, rfl, rfl, fun p hp => .tail _ (hs _ (hP4 _ hp)), ?_⟩
        rw [List.take_add_one, hk, List.map_append, ← List.append_assoc]
        exact (hw2.mono fun v p h => WR.mono _ _ v p (fun p hp => .tail _ (hs _ hp)) h).snoc (show WR w _ (.ref T3) (k, false) from ⟨T3, xk, 0, rfl, .head _, hNk.mono fun p hp => .tail _ (hs _ (hP4 _ hp))⟩)
      · rintro vals' own' P' s11 S11 ⟨wv2, e2, u4, rfl, rfl, hP4, hw2⟩
        have hlr : pv.reverse.length = t'.kids.reverse.length := by rw [List.length_reverse, List.length_reverse, hpl]
        rw [hlr, List.take_length] at hw2
        have hse := size_eq t'
        dsimp only
        k_offL
        refine ⟨mu (t'.kids.map (fun k => (k, false)) ++ (t', true) :: ws), by rw [mu_kids]; simp only [mu]; omega, t'.kids.map (fun k => (k, false)) ++ (t', true) :: ws, done, _, _, _, _, _, _, _, _, _, _, _, P', rfl, fun p hp => hP4 _ (hs7 _ (hP2 _ hp)), by assumption, ?_, hdv3.mono fun v p h => TR.mono _ _ v p hP4 h, good_kids ⟨done, rfl, hg⟩, ?_, ?_⟩
        · rw [List.reverse_append, List.reverse_cons, ← List.map_reverse]; exact hw2
        · intro p hp
          rcases List.mem_append.mp hp with hp | hp
          · obtain ⟨k, hk, rfl⟩ := List.mem_map.mp hp
            exact hok'.kid hk
          · rcases List.mem_cons.mp hp with rfl | hp
            · exact hok'
            · exact hoks' p hp
        · rw [mu_kids]; simp only [mu] at hmu ⊢; omega
    · have hg' : ∃ d0, done = d0 ++ t'.kids.map (fixT cn) ∧ Good cn (fixT cn t) ws (d0 ++ [fixT cn t']) := by
        cases fl with
        | true => exact hg
        | false =>
          have hk : t'.kids = [] := List.length_eq_zero_iff.mp (by
            have : ¬ pv.length > 0 := by simpa using hb
            omega)
          refine ⟨done, by rw [hk]; simp, hg⟩
      have hmu2 : mu ws + 1 ≤ mu ((t', fl) :: ws) := by
        cases fl with
        | true => simp only [mu]; omega
        | false => have := size_pos t'; simp only [mu]; omega
      obtain ⟨d0, hd0, hg2⟩ := hg'
      clear hg hb
      have hdd : dv.length = d0.length + t'.kids.length := by rw [hdl, hd0, List.length_append, List.length_map]
      k_offL
      refine len_O (by assumption) (by k_mem) (by omega) ?_
      intro s9 tk9 S9
      k_offL
      refine len_P (by assumption) hlp (by omega) ?_
      intro s10 tk10 S10
      k_offL
      have hfi : (((dv.length : Nat) : Int) - ((pv.length : Nat) : Int)) = ((d0.length : Nat) : Int) := by omega
      refine slice_up (by assumption) (St.isListO (by assumption) (by k_mem)) (.int _ _) .none (pick_from (by omega)) (by omega) ?_ (by k_dflt rfl) (by k_dflt exact fun _ => rfl)
      intro Df s11 S11
      have hft : (((dv.length : Nat) : Int) - ((pv.length : Nat) : Int)).toNat = d0.length := by omega
      rw [hft] at S11
      have hfv0 : All2 (TR w P3) (dv.drop d0.length) (t'.kids.map (fixT cn)) := by
        have := hdv3.drop d0.length
        rw [hd0, List.drop_left] at this
        exact this
      have hdt0 : All2 (TR w P3) (dv.take d0.length) d0 := by
        have := hdv3.take d0.length
        rw [hd0, List.take_left] at this
        exact this
      generalize dv.drop d0.length = fv at S11 hfv0
      have hfl := hfv0.length
      rw [List.length_map] at hfl
      k_offL
      refine slice_upO (by assumption) (St.isListO (by assumption) (by k_mem)) .none (.int _ _) (pick_to (by omega)) (by omega) ?_ (by k_dflt rfl) (by k_dflt exact fun _ => rfl)
      intro D2 s12 S12
      rw [hft] at S12
      have S13 := (S12.perm (own' := [_, _, _]) p_cab).drop.perm (own' := [_, _]) (List.Perm.swap _ _ _)
      generalize dv.take d0.length = dt at S12 S13 hdt0
      clear S8 S9 S10 S11 S12
      have hfv := (Nds.of hfv0).mono fun p hp => List.mem_cons_of_mem (Df, listOf fv.toArray 0) hp
      have hpv1 := hpv.mono fun p hp => List.mem_cons_of_mem (Df, listOf fv.toArray 0) hp
      have hN4 := hN3.mono fun p hp => List.mem_cons_of_mem (Df, listOf fv.toArray 0) hp
      iterate 2 k_clsL
      refine cutN gN (fun ns f s' => f = .next ∧ ∃ P4 b' u1 u2 u3 u4, St w c' (asg ns [some (.ref a), some (.ref q), some (.ref D2), some (.ref Wt), some (.ref b'), u1, u2, u3, u4, some (.ref Df)]) [(Wt, listOf wv.toArray (ew + 1)), (D2, listOf dt.toArray 0)] P4 s' ∧ (∀ p ∈ P3, p ∈ P4) ∧ Nd w P4 b' (t'.wk (t'.kids.map (fixT cn)))) ?_ ?_
      · k_offL
        refine useP (same_list (.tail _ hlp) (.head _) hpv1.refs hfv.refs (by omega) (by omega)) (by assumption) d4 u4 ?_
        rintro r P4 s14 S14 hs14 rfl
        k_offL
        refine ifB (fun hb => ?_) (fun hb => ?_)
        · have hne : ¬ pv = fv := fun e => by rw [decide_eq_true e] at hb; cases hb
          have hk0 : t'.kids ≠ [] := fun e => by
            rw [e] at hpl hfl
            exact hne (by rw [List.length_eq_zero_iff.mp hpl, List.length_eq_zero_iff.mp hfl])
          k_offL
          refine with_m (by assumption) (hN4.mono hs14) (fun _ h => h) hk0 hok'.noFix ?_ (by k_dflt rfl)
          k_offL
          refine useP (with_of (hN4.mono hs14) (hs14 _ (.head _)) (hfv.mono hs14) (by rw [List.length_map]) hk0 hok'.noFix (by rw [List.length_map]; omega)) (by assumption) d6 u6 ?_
          rintro r P5 s15 S15 hs15 ⟨b', rfl, hT⟩
          k_offL
          exact ⟨rfl, P5, b', _, _, _, _, by assumption, fun p hp => hs15 _ (hs14 _ (.tail _ hp)), hT⟩
        · have he : pv = fv := by simpa using hb
          have hkk : t'.kids.map (fixT cn) = t'.kids := by
            subst he
            exact Nds.uniq (St.fun1 S14) (hfv.mono hs14) (hpv1.mono hs14)
          k_offL
          exact ⟨rfl, P4, b, _, _, _, _, by assumption, fun p hp => hs14 _ (.tail _ hp), by rw [hkk, wk_kids]; exact hN4.mono hs14⟩
      · rintro f s14 ⟨rfl, P4, b', u1, u2', u3, u4', S14, hs14, hNb'⟩
        dsimp only
        k_offL
        have to4 : ∀ p ∈ P, p ∈ P4 := fun p hp => hs14 _ (hs7 _ (hP2 _ hp))
        refine callLM (by assumption) gN (by keq_rows; exact rfl) (to4 _ hq) (fnin_491 w) ?_ (by k_dflt rfl)
        k_offL
        refine ⟨methP (St.N (by assumption)) (List.mem_append_right _ (to4 _ hq)) (St.kin (by assumption)), ?_⟩
        have hx4 : FxObj w P4 x F := by obtain ⟨d, tf, a1, a2⟩ := hx; exact ⟨d, tf, to4 _ a1, to4 _ a2⟩
        have hF4 : FSet w P4 F cn := by obtain ⟨dF, es, n, dS, o, kv, a1, a2, a3, a4, a5, a6⟩ := hF; exact ⟨dF, es, n, dS, o, kv, to4 _ a1, to4 _ a2, a3, to4 _ a4, a5, a6⟩
        refine call_bm (by assumption) (to4 _ hq) (turned hNb' hx4 hF4 (by have := wk_size (c := cn) hok'.noFix; omega) (setOk_of fun n hn => hok'.st n (wk_setn hok'.noFix n hn))) d20 u20 ?_
        intro r P5 s15 S15 hs15 hT
        rw [← fixT_eq cn t' hok'.noFix] at hT
        k_offL
        refine app (S15.perm (own' := [_, _]) (List.Perm.swap _ _ _)) (fits_le (by have := hdt0.length; omega)) ?_
        intro s16 S16
        have S17 := S16.perm (own' := [_, _]) (List.Perm.swap _ _ _)
        k_offL
        have hsub : ∀ p ∈ P3, p ∈ P5 := fun p hp => hs15 _ (hs14 _ hp)
        refine ⟨mu ws, by omega, ws, d0 ++ [fixT cn t'], _, _, _, _, _, _, _, _, _, _, _, P5, rfl, fun p hp => hs15 _ (to4 _ hp), S17, hwv3.mono fun v p h => WR.mono _ _ v p hsub h, (hdt0.mono fun v t h => TR.mono _ _ v t hsub h).snoc hT, hg2, hoks', ?_⟩
        rw [List.length_append, List.length_singleton]
        have : done.length = d0.length + t'.kids.length := by rw [← hdl]; exact hdd
        omega
  · rintro f s3 ⟨rfl, Dn, dv, wv, en, ew, v1, v2, v3, v4, v5, v6, P2, hP2, S3, hdv⟩
    cases hdv with
    | cons hT hr =>
    cases hr
    dsimp only
    k_offL
    refine li_item (St.isListO (by assumption) (by k_mem)) (by decide) (by decide) rfl ?_ (by k_dflt rfl)
    exact ⟨_, [], [_, _], P2, by assumption, hP2, (by rfl), hT⟩
end
section
variable {w : World} {c : Cx} {m : Str → Option Value} {own P : Led} {s : Shared} {E : Value → Shared → Prop}
theorem makeG {C fI : Addr} {args : List Value} {Q : Value → Shared → Prop} {name qual : Str} {params : Arguments} {body : List Stmt} {ns : List (Str × NameKind)} {mo : List (Str × Const)} {dV kV doc pm cdv ct oc : Value} {an od : Option Addr} {osl : Array (Option Value)} {K : Frag} {Out : Led → Led → Value → Prop}
    (hK : K = hd.heap_39 w.params) (hm : makesIn K C = true) (hi : findIn K (.ref C) "__init__" = some (some (.ref fI))) (hf : isFn K (.ref fI) = true)
    (ho : K.lookup fI = some ⟨oc, od, .func (fnOf name qual params body (fnSc ns mo) dV kV doc pm an cdv ct), osl⟩) (hcd : codeIn K cdv qual = true)
    (S : St w c m own P s) (hroom : c.A.depth + 1 < recursionLimit)
    (hbind : ∀ x (s : Shared), BindsTo s (fnOf name qual params body (fnSc ns mo) dV kV doc pm an cdv ct) ⟨.ref x :: args, []⟩ ((params.args.map (·.arg)).zip (.ref x :: args))) (hlen : (params.args.map (·.arg)).length = args.length + 1) (hgood : goodFn ns (params.args.map (·.arg)) = true)
    (h : ∀ c' s' x dx, goodNs ns = true → c'.A.depth = c.A.depth + 2 → c'.A.units ≤ c.A.units + 8 → St w c' (asg ns (some (.ref x) :: args.map some)) [(dx, dictOf [] 0)] ((x, instObj C dx) :: P) s' →
      wpAny (model PySem.Challenge.rw_pq1024_01.row.prog w) c'.A (execs body (envX qual (fnSc ns mo) c'.L fI cdv [])) (fun fl s'' => Ends w c' ((x, instObj C dx) :: P) (fun cs P' r => r = .none ∧ Out cs P' (.ref x)) (match fl with | .ret v => v | _ => .none) s'') (fun _ _ => False) s')
    (ret : ∀ x cells P' s', St w c m (cells ++ own) P' s' → (∀ p ∈ P, p ∈ P') → Out cells P' (.ref x) → Q (.ref x) s') :
    wpAny (model PySem.Challenge.rw_pq1024_01.row.prog w) c.A (call (.ref C) args) Q E s := by
  subst hK
  refine call_cls S.F S.X S.N hm hi hf fun x dx h' F' N' l1 l2 => ?_
  let c2 : Cx := { c with A := c.A.under (.builtin "type.__call__" ⟨.ref C :: args, []⟩) }
  have S2 : St w c2 m ([(dx, dictOf [] 0)] ++ own) ((x, instObj C dx) :: P) { s with heap := h' } := by
    refine ⟨F', fun p hp => N' p ?_, fun q hq p hp => ?_, ?_, S.X, S.T, ⟨S.B.stack, S.B.stays, S.B.frames⟩, S.hh, S.fr, S.eg, S.ed, S.eo⟩
    · rcases List.mem_append.mp hp with hp | hp
      · rcases List.mem_cons.mp hp with rfl | hp
        · exact .tail _ (.head _)
        · exact .tail _ (.tail _ (List.mem_append_left _ hp))
      · rcases List.mem_cons.mp hp with rfl | hp
        · exact .head _
        · exact .tail _ (.tail _ (List.mem_append_right _ hp))
    · rcases List.mem_cons.mp hp with rfl | hp
      · rcases List.mem_cons.mp hq with rfl | hq
        · exact fun e => Nat.lt_irrefl dx (by have e' : x = dx := e; rw [e'] at l2; exact l2)
        · have := Nat.lt_trans (l1 q (List.mem_append_left _ hq)) l2
          exact fun e => by have e' : x = q.1 := e; rw [← e'] at this; exact Nat.lt_irrefl _ this
      · rcases List.mem_cons.mp hq with rfl | hq
        · have := l1 p (List.mem_append_right _ hp)
          exact fun e => by have e' : p.1 = dx := e; rw [e'] at this; exact Nat.lt_irrefl _ this
        · exact S.ap q hq p hp
    · refine List.nodup_cons.mpr ⟨fun hm => ?_, S.nd⟩
      obtain ⟨q, hq, e⟩ := List.mem_map.mp hm
      have := l1 q (List.mem_append_left _ hq)
      rw [e] at this
      exact Nat.lt_irrefl _ this
  have key := enterG (c := c2) (m := m) (cells := [(dx, dictOf [] 0)]) (rest := own) (P := (x, instObj C dx) :: P) (s := { s with heap := h' }) (Q := fun v s' => v = .none ∧ Q (.ref x) s') (E := E) (vs := .ref x :: args) (Out := fun cs P' r => r = .none ∧ Out cs P' (.ref x)) rfl S2 ho hcd hroom (hbind x _) (by rw [hlen]; rfl) hgood
    (fun c' s' h0 h1 h2 S' => wpAny_mono (h c' s' x dx h0 (by rw [h1]; rfl) (by rw [h2]; have : c2.A.units = c.A.units + 1 := units_under_make _ _ _; omega) S') (fun fl s'' hfin => ?_) fun _ _ e => e) (fun r cells' P' s' S' hs ho => ?_)
  · refine codeAny_mono key fun r s' z => ?_
    rcases r with e | (v | _ | _ | _) <;> first | exact z | exact z.elim
  · obtain ⟨m', cells', own', P', S3, hs, hr, ho⟩ := hfin
    exact ⟨m', cells', own', P', S3, hs, hr, ho⟩
  · exact ⟨ho.1, ret x cells' P' s' ⟨S'.F, S'.N, S'.ap, S'.nd, S'.X, S'.T, ⟨S.B.stack, S.B.stays, S.B.frames⟩, S.hh, S.fr, S'.eg, S'.ed, S'.eo⟩ (fun p hp => hs p (.tail _ hp)) ho.2⟩
end
structure FA where
  (sg rg nr lt pr ct bd cl st rd : Addr)
def FObj (w : World) (P : Led) (F : Addr) (a : FA) : Prop := ∃ dF t0 t1 t2 t3 t4 t5 t6 t7 t8 t9, (F, instObj 379 dF) ∈ P ∧ (dF, dictOf [ent w "read" t0 (.ref a.rd), ent w "set" t1 (.ref a.st), ent w "called" t2 (.ref a.cl), ent w "bound" t3 (.ref a.bd), ent w "caught" t4 (.ref a.ct), ent w "parent" t5 (.ref a.pr), ent w "lets" t6 (.ref a.lt), ent w "inner" t7 (.ref a.nr), ent w "read_globals" t8 (.ref a.rg), ent w "set_globals" t9 (.ref a.sg)] 10) ∈ P
theorem FObj.mono {w : World} {P P' : Led} {F : Addr} {a : FA} (hs : ∀ p ∈ P, p ∈ P') (h : FObj w P F a) : FObj w P' F a := by
  obtain ⟨dF, t0, t1, t2, t3, t4, t5, t6, t7, t8, t9, h1, h2⟩ := h
  exact ⟨dF, t0, t1, t2, t3, t4, t5, t6, t7, t8, t9, hs _ h1, hs _ h2⟩
theorem sat_Facts (w : World) : findIn (hd.heap_39 w.params) (.ref 379) "__setattr__" = some (some (.builtin "object.__setattr__")) := by kernel_rfl
theorem po_Facts (w : World) : plainOver (hd.heap_39 w.params) 379 = true := by kernel_rfl
theorem tk_Facts_read (w : World) : takerIn (hd.heap_39 w.params) 379 (Str.ofString "read") = some none := by kernel_rfl
theorem tk_Facts_set (w : World) : takerIn (hd.heap_39 w.params) 379 (Str.ofString "set") = some none := by kernel_rfl
theorem tk_Facts_called (w : World) : takerIn (hd.heap_39 w.params) 379 (Str.ofString "called") = some none := by kernel_rfl
theorem tk_Facts_bound (w : World) : takerIn (hd.heap_39 w.params) 379 (Str.ofString "bound") = some none := by kernel_rfl
theorem tk_Facts_caught (w : World) : takerIn (hd.heap_39 w.params) 379 (Str.ofString "caught") = some none := by kernel_rfl
theorem tk_Facts_parent (w : World) : takerIn (hd.heap_39 w.params) 379 (Str.ofString "parent") = some none := by kernel_rfl
theorem tk_Facts_lets (w : World) : takerIn (hd.heap_39 w.params) 379 (Str.ofString "lets") = some none := by kernel_rfl
theorem tk_Facts_inner (w : World) : takerIn (hd.heap_39 w.params) 379 (Str.ofString "inner") = some none := by kernel_rfl
theorem tk_Facts_read_globals (w : World) : takerIn (hd.heap_39 w.params) 379 (Str.ofString "read_globals") = some none := by kernel_rfl
theorem tk_Facts_set_globals (w : World) : takerIn (hd.heap_39 w.params) 379 (Str.ofString "set_globals") = some none := by kernel_rfl
section
variable {w : World} {c : Cx} {m : Str → Option Value} {own P : Led} {s : Shared} {E Q : Value → Shared → Prop}
theorem at_F_read {F : Addr} {a : FA} {P₀ : Led} {ex : Bool} (S : St w c m own P s) (h : FObj w P₀ F a) (hs : ∀ p ∈ P₀, p ∈ P) (k : ∀ s', St w c m own P s' → Q (.ref a.rd) s') : wpAny (model PySem.Challenge.rw_pq1024_01.row.prog w) c.A (getAttr (.ref F) (Str.ofString "read") ex) Q E s := by
  obtain ⟨dF, t0, t1, t2, t3, t4, t5, t6, t7, t8, t9, h1, h2⟩ := h
  exact ga (pg_Facts w _) (hh_Facts w) (fi_Facts_read w) S (hs _ h1) (hs _ h2) rfl rfl k
theorem at_F_set {F : Addr} {a : FA} {P₀ : Led} {ex : Bool} (S : St w c m own P s) (h : FObj w P₀ F a) (hs : ∀ p ∈ P₀, p ∈ P) (k : ∀ s', St w c m own P s' → Q (.ref a.st) s') : wpAny (model PySem.Challenge.rw_pq1024_01.row.prog w) c.A (getAttr (.ref F) (Str.ofString "set") ex) Q E s := by
  obtain ⟨dF, t0, t1, t2, t3, t4, t5, t6, t7, t8, t9, h1, h2⟩ := h
  exact ga (pg_Facts w _) (hh_Facts w) (fi_Facts_set w) S (hs _ h1) (hs _ h2) rfl rfl k
theorem at_F_called {F : Addr} {a : FA} {P₀ : Led} {ex : Bool} (S : St w c m own P s) (h : FObj w P₀ F a) (hs : ∀ p ∈ P₀, p ∈ P) (k : ∀ s', St w c m own P s' → Q (.ref a.cl) s') : wpAny (model PySem.Challenge.rw_pq1024_01.row.prog w) c.A (getAttr (.ref F) (Str.ofString "called") ex) Q E s := by
  obtain ⟨dF, t0, t1, t2, t3, t4, t5, t6, t7, t8, t9, h1, h2⟩ := h
  exact ga (pg_Facts w _) (hh_Facts w) (fi_Facts_called w) S (hs _ h1) (hs _ h2) rfl rfl k
theorem at_F_bound {F : Addr} {a : FA} {P₀ : Led} {ex : Bool} (S : St w c m own P s) (h : FObj w P₀ F a) (hs : ∀ p ∈ P₀, p ∈ P) (k : ∀ s', St w c m own P s' → Q (.ref a.bd) s') : wpAny (model PySem.Challenge.rw_pq1024_01.row.prog w) c.A (getAttr (.ref F) (Str.ofString "bound") ex) Q E s := by
  obtain ⟨dF, t0, t1, t2, t3, t4, t5, t6, t7, t8, t9, h1, h2⟩ := h
  exact ga (pg_Facts w _) (hh_Facts w) (fi_Facts_bound w) S (hs _ h1) (hs _ h2) rfl rfl k
theorem at_F_caught {F : Addr} {a : FA} {P₀ : Led} {ex : Bool} (S : St w c m own P s) (h : FObj w P₀ F a) (hs : ∀ p ∈ P₀, p ∈ P) (k : ∀ s', St w c m own P s' → Q (.ref a.ct) s') : wpAny (model PySem.Challenge.rw_pq1024_01.row.prog w) c.A (getAttr (.ref F) (Str.ofString "caught") ex) Q E s := by
  obtain ⟨dF, t0, t1, t2, t3, t4, t5, t6, t7, t8, t9, h1, h2⟩ := h
  exact ga (pg_Facts w _) (hh_Facts w) (fi_Facts_caught w) S (hs _ h1) (hs _ h2) rfl rfl k
theorem at_F_parent {F : Addr} {a : FA} {P₀ : Led} {ex : Bool} (S : St w c m own P s) (h : FObj w P₀ F a) (hs : ∀ p ∈ P₀, p ∈ P) (k : ∀ s', St w c m own P s' → Q (.ref a.pr) s') : wpAny (model PySem.Challenge.rw_pq1024_01.row.prog w) c.A (getAttr (.ref F) (Str.ofString "parent") ex) Q E s := by
  obtain ⟨dF, t0, t1, t2, t3, t4, t5, t6, t7, t8, t9, h1, h2⟩ := h
  exact ga (pg_Facts w _) (hh_Facts w) (fi_Facts_parent w) S (hs _ h1) (hs _ h2) rfl rfl k
theorem at_F_lets {F : Addr} {a : FA} {P₀ : Led} {ex : Bool} (S : St w c m own P s) (h : FObj w P₀ F a) (hs : ∀ p ∈ P₀, p ∈ P) (k : ∀ s', St w c m own P s' → Q (.ref a.lt) s') : wpAny (model PySem.Challenge.rw_pq1024_01.row.prog w) c.A (getAttr (.ref F) (Str.ofString "lets") ex) Q E s := by
  obtain ⟨dF, t0, t1, t2, t3, t4, t5, t6, t7, t8, t9, h1, h2⟩ := h
  exact ga (pg_Facts w _) (hh_Facts w) (fi_Facts_lets w) S (hs _ h1) (hs _ h2) rfl rfl k
theorem at_F_inner {F : Addr} {a : FA} {P₀ : Led} {ex : Bool} (S : St w c m own P s) (h : FObj w P₀ F a) (hs : ∀ p ∈ P₀, p ∈ P) (k : ∀ s', St w c m own P s' → Q (.ref a.nr) s') : wpAny (model PySem.Challenge.rw_pq1024_01.row.prog w) c.A (getAttr (.ref F) (Str.ofString "inner") ex) Q E s := by
  obtain ⟨dF, t0, t1, t2, t3, t4, t5, t6, t7, t8, t9, h1, h2⟩ := h
  exact ga (pg_Facts w _) (hh_Facts w) (fi_Facts_inner w) S (hs _ h1) (hs _ h2) rfl rfl k
theorem at_F_read_globals {F : Addr} {a : FA} {P₀ : Led} {ex : Bool} (S : St w c m own P s) (h : FObj w P₀ F a) (hs : ∀ p ∈ P₀, p ∈ P) (k : ∀ s', St w c m own P s' → Q (.ref a.rg) s') : wpAny (model PySem.Challenge.rw_pq1024_01.row.prog w) c.A (getAttr (.ref F) (Str.ofString "read_globals") ex) Q E s := by
  obtain ⟨dF, t0, t1, t2, t3, t4, t5, t6, t7, t8, t9, h1, h2⟩ := h
  exact ga (pg_Facts w _) (hh_Facts w) (fi_Facts_read_globals w) S (hs _ h1) (hs _ h2) rfl rfl k
theorem at_F_set_globals {F : Addr} {a : FA} {P₀ : Led} {ex : Bool} (S : St w c m own P s) (h : FObj w P₀ F a) (hs : ∀ p ∈ P₀, p ∈ P) (k : ∀ s', St w c m own P s' → Q (.ref a.sg) s') : wpAny (model PySem.Challenge.rw_pq1024_01.row.prog w) c.A (getAttr (.ref F) (Str.ofString "set_globals") ex) Q E s := by
  obtain ⟨dF, t0, t1, t2, t3, t4, t5, t6, t7, t8, t9, h1, h2⟩ := h
  exact ga (pg_Facts w _) (hh_Facts w) (fi_Facts_set_globals w) S (hs _ h1) (hs _ h2) rfl rfl k
end

section
variable {w : World} {P : Led}
theorem mk_facts {c : Cx} {m : Str → Option Value} {own : Led} {s : Shared} {Q E : Value → Shared → Prop} (S : St w c m own P s) (hdp : c.A.depth + 3 < recursionLimit) (hu : c.A.units + 40 < cLine)
    (ret : ∀ F a cells P' s', St w c m (cells ++ own) P' s' → (∀ p ∈ P, p ∈ P') → FObj w P' F a → Dcs w cells [(a.sg, []), (a.rg, []), (a.nr, []), (a.lt, []), (a.pr, []), (a.ct, []), (a.bd, []), (a.cl, []), (a.st, []), (a.rd, [])] → Q (.ref F) s') :
    wpAny (model PySem.Challenge.rw_pq1024_01.row.prog w) c.A (call (.ref 379) []) Q E s := by
  have X := S.X
  refine makeG (Out := fun cells P' r => ∃ F a dF t0 t1 t2 t3 t4 t5 t6 t7 t8 t9 cs, r = .ref F ∧ (F, instObj 379 dF) ∈ P' ∧ cells = (dF, dictOf [ent w "read" t0 (.ref (FA.rd a)), ent w "set" t1 (.ref (FA.st a)), ent w "called" t2 (.ref (FA.cl a)), ent w "bound" t3 (.ref (FA.bd a)), ent w "caught" t4 (.ref (FA.ct a)), ent w "parent" t5 (.ref (FA.pr a)), ent w "lets" t6 (.ref (FA.lt a)), ent w "inner" t7 (.ref (FA.nr a)), ent w "read_globals" t8 (.ref (FA.rg a)), ent w "set_globals" t9 (.ref (FA.sg a))] 10) :: cs ∧ Dcs w cs [(a.sg, []), (a.rg, []), (a.nr, []), (a.lt, []), (a.pr, []), (a.ct, []), (a.bd, []), (a.cl, []), (a.st, []), (a.rd, [])]) (K := hd.heap_39 w.params) rfl (by k_is) (by k_is) (by k_is) (by k_is) (by k_is) S (by omega) (by exact fun x s => BindsTo.of_eq rfl) (by exact rfl) (by kernel_rfl) ?_ ?kr
  case kr =>
    rintro x cells P' s' S' hs ⟨F, a, dF, t0, t1, t2, t3, t4, t5, t6, t7, t8, t9, cs, e, hm, rfl, hD⟩
    cases e
    exact ret _ a cs _ _ (St.settle S') (fun p hp => .tail _ (hs p hp)) ⟨dF, t0, t1, t2, t3, t4, t5, t6, t7, t8, t9, .tail _ hm, .head _⟩ hD
  intro c' s' x dx gN _ _ S'
  dsimp only [List.map] at S'
  k_offL
  refine dnew (by assumption) ?_
  intro d0 o0 z0 hd0 hl0 S0
  have S0' := S0.swap
  k_offL
  refine sa (sat_Facts w) (po_Facts w) (tk_Facts_read w) (hh_Facts w) S0' (by k_mem) rfl (fun _ _ _ => rfl) rfl (Nat.le_of_ble_eq_true rfl) ?_
  clear S0 S0'
  intro y0 tk0 T0
  dsimp only [List.cons_append, List.nil_append] at T0
  k_offL
  refine dnew (by assumption) ?_
  intro d1 o1 z1 hd1 hl1 S1
  have S1' := S1.swap
  k_offL
  refine sa (sat_Facts w) (po_Facts w) (tk_Facts_set w) (hh_Facts w) S1' (by k_mem) rfl (fun _ _ _ => rfl) rfl (Nat.le_of_ble_eq_true rfl) ?_
  clear S1 S1'
  intro y1 tk1 T1
  dsimp only [List.cons_append, List.nil_append] at T1
  k_offL
  refine dnew (by assumption) ?_
  intro d2 o2 z2 hd2 hl2 S2
  have S2' := S2.swap
  k_offL
  refine sa (sat_Facts w) (po_Facts w) (tk_Facts_called w) (hh_Facts w) S2' (by k_mem) rfl (fun _ _ _ => rfl) rfl (Nat.le_of_ble_eq_true rfl) ?_
  clear S2 S2'
  intro y2 tk2 T2
  dsimp only [List.cons_append, List.nil_append] at T2
  k_offL
  refine dnew (by assumption) ?_
  intro d3 o3 z3 hd3 hl3 S3
  have S3' := S3.swap
  k_offL
  refine sa (sat_Facts w) (po_Facts w) (tk_Facts_bound w) (hh_Facts w) S3' (by k_mem) rfl (fun _ _ _ => rfl) rfl (Nat.le_of_ble_eq_true rfl) ?_
  clear S3 S3'
  intro y3 tk3 T3
  dsimp only [List.cons_append, List.nil_append] at T3
  k_offL
  refine dnew (by assumption) ?_
  intro d4 o4 z4 hd4 hl4 S4
  have S4' := S4.swap
  k_offL
  refine sa (sat_Facts w) (po_Facts w) (tk_Facts_caught w) (hh_Facts w) S4' (by k_mem) rfl (fun _ _ _ => rfl) rfl (Nat.le_of_ble_eq_true rfl) ?_
  clear S4 S4'
  intro y4 tk4 T4
  dsimp only [List.cons_append, List.nil_append] at T4
  k_offL
  refine dnew (by assumption) ?_
  intro d5 o5 z5 hd5 hl5 S5
  have S5' := S5.swap
  k_offL
  refine sa (sat_Facts w) (po_Facts w) (tk_Facts_parent w) (hh_Facts w) S5' (by k_mem) rfl (fun _ _ _ => rfl) rfl (Nat.le_of_ble_eq_true rfl) ?_
  clear S5 S5'
  intro y5 tk5 T5
  dsimp only [List.cons_append, List.nil_append] at T5
  k_offL
  refine dnew (by assumption) ?_
  intro d6 o6 z6 hd6 hl6 S6
  have S6' := S6.swap
  k_offL
  refine sa (sat_Facts w) (po_Facts w) (tk_Facts_lets w) (hh_Facts w) S6' (by k_mem) rfl (fun _ _ _ => rfl) rfl (Nat.le_of_ble_eq_true rfl) ?_
  clear S6 S6'
  intro y6 tk6 T6
  dsimp only [List.cons_append, List.nil_append] at T6
  k_offL
  refine dnew (by assumption) ?_
  intro d7 o7 z7 hd7 hl7 S7
  have S7' := S7.swap
  k_offL
  refine sa (sat_Facts w) (po_Facts w) (tk_Facts_inner w) (hh_Facts w) S7' (by k_mem) rfl (fun _ _ _ => rfl) rfl (Nat.le_of_ble_eq_true rfl) ?_
  clear S7 S7'
  intro y7 tk7 T7
  dsimp only [List.cons_append, List.nil_append] at T7
  k_offL
  refine dnew (by assumption) ?_
  intro d8 o8 z8 hd8 hl8 S8
  have S8' := S8.swap
  k_offL
  refine sa (sat_Facts w) (po_Facts w) (tk_Facts_read_globals w) (hh_Facts w) S8' (by k_mem) rfl (fun _ _ _ => rfl) rfl (Nat.le_of_ble_eq_true rfl) ?_
  clear S8 S8'
  intro y8 tk8 T8
  dsimp only [List.cons_append, List.nil_append] at T8
  k_offL
  refine dnew (by assumption) ?_
  intro d9 o9 z9 hd9 hl9 S9
  have S9' := S9.swap
  k_offL
  refine sa (sat_Facts w) (po_Facts w) (tk_Facts_set_globals w) (hh_Facts w) S9' (by k_mem) rfl (fun _ _ _ => rfl) rfl (Nat.le_of_ble_eq_true rfl) ?_
  clear S9 S9'
  intro y9 tk9 T9
  dsimp only [List.cons_append, List.nil_append] at T9
  k_offL
  exact ⟨_, _, [], _, by rw [List.append_nil]; assumption, fun _ h => h, rfl, x, ⟨d9, d8, d7, d6, d5, d4, d3, d2, d1, d0⟩, dx, tk0, tk1, tk2, tk3, tk4, tk5, tk6, tk7, tk8, tk9, _, rfl, .head _, rfl, .cons hd9 hl9 (.cons hd8 hl8 (.cons hd7 hl7 (.cons hd6 hl6 (.cons hd5 hl5 (.cons hd4 hl4 (.cons hd3 hl3 (.cons hd2 hl2 (.cons hd1 hl1 (.cons hd0 hl0 .nil)))))))))⟩
theorem count_in {c : Cx} {m : Str → Option Value} {cells rest : Led} {l : List (Addr × KV)} {s : Shared} {Q E : Value → Shared → Prop} {i : Nat} {d : Addr} {kv : KV} {k n : Int} {u : Tok} (D : Dcs w cells l) (S : St w c m (cells ++ rest) P s) (hi : l[i]? = some (d, kv)) (hv : ∀ t0, ∃ t, (valueAt kv k).getD (.int 0 t0) = .int n t) (hz : kv.length ≤ 900000)
    (hdp : c.A.depth + 1 < recursionLimit) (ret : ∀ cells' tk s', Dcs w cells' (l.set i (d, stored kv k (.int (n + 1) tk))) → St w c m (cells' ++ rest) P s' → Q .none s') : wpAny (model PySem.Challenge.rw_pq1024_01.row.prog w) c.A (call (.ref 390) [.ref d, .int k u]) Q E s := by
  have X := S.X
  refine wpAny_call ?_
  refine enterG (K := hd.heap_39 _) (cells := cells) (rest := rest) (P := P) (Out := fun cs P' r => ∃ tk, r = .none ∧ Dcs w cs (l.set i (d, stored kv k (.int (n + 1) tk)))) rfl S (by k_is) (by k_is) (by omega) (by exact BindsTo.of_eq rfl) (by exact rfl) (by kernel_rfl) ?_ ?_
  · intro c' s' gN hd' hu' S'
    dsimp only [List.map] at S'
    clear ret S hdp hd' hu'
    rw [← List.append_nil cells] at S'
    k_offL
    refine dgetm D (by assumption) hi ?_
    k_offL
    refine dget2 D (by assumption) hi ?_
    intro s1 S1
    rename_i tk0 _
    obtain ⟨t, ht⟩ := hv tk0
    rw [ht]
    k_offL
    refine dset D (by assumption) hi (by omega) ?_
    intro cells' s2 D2 S2
    k_offL
    exact ⟨_, cells', [], P, S2, fun _ h => h, _, rfl, D2⟩
  · rintro r cells' P' s' S' hs ⟨tk, rfl, hD⟩
    exact ret _ _ _ hD (S'.sub hs)
end
inductive Chain (pr : Int → Option Int) (b : Int) : Int → Nat → Prop
  | here {k : Nat} : Chain pr b b k
  | up {x p : Int} {k : Nat} : pr x = some p → Chain pr b p k → Chain pr b x (k + 1)
theorem Chain.mono {pr pr' : Int → Option Int} {b : Int} (h : ∀ x p, pr x = some p → pr' x = some p) : ∀ {x : Int} {k : Nat}, Chain pr b x k → Chain pr' b x k
  | _, _, .here => .here
  | _, _, .up e r => .up (h _ _ e) (r.mono h)
theorem Chain.le {pr : Int → Option Int} {b : Int} : ∀ {x : Int} {k k' : Nat}, Chain pr b x k → k ≤ k' → Chain pr b x k'
  | _, _, _, .here, _ => .here
  | _, k + 1, k' + 1, .up e r, h => .up e (r.le (by omega))
def CntIs (kv : KV) (x : Int) (n : Nat) : Prop := (n = 0 → valueAt kv x = none) ∧ (n ≠ 0 → ∃ t, valueAt kv x = some (.int (n : Nat) t))
def Cnt (kv : KV) : Prop := ∀ x, ∃ n : Nat, CntIs kv x n
theorem CntIs.getD {kv : KV} {x : Int} {n : Nat} (h : CntIs kv x n) (t0 : Tok) : ∃ t, (valueAt kv x).getD (.int 0 t0) = .int (n : Nat) t := by
  by_cases h0 : n = 0
  · rw [h.1 h0, h0]; exact ⟨t0, rfl⟩
  · obtain ⟨t, e⟩ := h.2 h0; rw [e]; exact ⟨t, rfl⟩
theorem CntIs.put {kv : KV} {k : Int} {n : Nat} {tk : Tok} : CntIs (stored kv k (.int ((n : Nat) + 1 : Int) tk)) k (n + 1) :=
  ⟨fun h => absurd h (Nat.succ_ne_zero n), fun _ => ⟨tk, by rw [valueAt_stored, if_pos rfl]; rfl⟩⟩
theorem CntIs.other {kv : KV} {k x : Int} {n : Nat} {v : Value} (h : CntIs kv x n) (hx : x ≠ k) : CntIs (stored kv k v) x n := by
  unfold CntIs
  rw [valueAt_stored, if_neg hx]; exact h
theorem Cnt.put {kv : KV} {k : Int} {n : Nat} {tk : Tok} (h : Cnt kv) : Cnt (stored kv k (.int ((n : Nat) + 1 : Int) tk)) := fun x => by
  by_cases hx : x = k
  · subst hx; exact ⟨_, CntIs.put⟩
  · obtain ⟨m, hm⟩ := h x; exact ⟨m, hm.other hx⟩
/-- what the dicts of Facts say -/
structure FK (bd pr : Int → Option Int) (cn : Int → Nat) (N : Nat) (kSg kRg kNr kLt kPr kCt kBd kCl kSt kRd : KV) (inn : List (Addr × KV)) : Prop where
  rg : Cnt kRg
  cl : Cnt kCl
  rd : Cnt kRd
  st : ∀ x, CntIs kSt x (cn x)
  bd : ∀ x b, bd x = some b → ∃ t, valueAt kBd x = some (.int b t)
  pr : ∀ x p, pr x = some p → (∃ t, valueAt kPr x = some (.int p t)) ∧ ∃ (j : Nat) (d : Addr) (kv : KV), valueAt kNr x = some (.ref d) ∧ inn[j]? = some (d, kv)
  len : kRg.length ≤ N ∧ kNr.length ≤ N ∧ kLt.length ≤ N ∧ kPr.length ≤ N ∧ kCt.length ≤ N ∧ kBd.length ≤ N ∧ kCl.length ≤ N ∧ kSt.length ≤ N ∧ kRd.length ≤ N
  inn : ∀ p ∈ inn, p.2.length ≤ N
abbrev fl (a : FA) (kSg kRg kNr kLt kPr kCt kBd kCl kSt kRd : KV) (inn : List (Addr × KV)) : List (Addr × KV) := (a.sg, kSg) :: (a.rg, kRg) :: (a.nr, kNr) :: (a.lt, kLt) :: (a.pr, kPr) :: (a.ct, kCt) :: (a.bd, kBd) :: (a.cl, kCl) :: (a.st, kSt) :: (a.rd, kRd) :: inn
def FS (a : FA) (bd pr : Int → Option Int) (cn : Int → Nat) (N : Nat) (l : List (Addr × KV)) : Prop :=
  ∃ kSg kRg kNr kLt kPr kCt kBd kCl kSt kRd inn, l = fl a kSg kRg kNr kLt kPr kCt kBd kCl kSt kRd inn ∧ FK bd pr cn N kSg kRg kNr kLt kPr kCt kBd kCl kSt kRd inn
theorem mem_set_or {α : Type} : ∀ {l : List α} {i : Nat} {x y : α}, y ∈ l.set i x → y = x ∨ y ∈ l
  | _ :: _, 0, _, _, h => by
    rcases List.mem_cons.mp h with h | h
    · exact .inl h
    · exact .inr (.tail _ h)
  | z :: r, i + 1, _, _, h => by
    rcases List.mem_cons.mp h with h | h
    · exact .inr (h ▸ .head _)
    · rcases mem_set_or h with h | h
      · exact .inl h
      · exact .inr (.tail _ h)
theorem set_get_other {l : List (Addr × KV)} {i j : Nat} {d d' : Addr} {kv kv' kv2 : KV} (h : l[i]? = some (d, kv)) (h2 : l[j]? = some (d', kv')) : ∃ kv3, (l.set i (d, kv2))[j]? = some (d', kv3) := by
  by_cases e : i = j
  · subst e
    rw [h] at h2
    cases h2
    have hl : i < l.length := by
      rcases Nat.lt_or_ge i l.length with h' | h'
      · exact h'
      · rw [List.getElem?_eq_none h'] at h; cases h
    exact ⟨kv2, by rw [List.getElem?_set_self hl]⟩
  · exact ⟨kv', by rw [List.getElem?_set_ne e]; exact h2⟩
end Mine
end
section
namespace Mine
theorem FK.le {bd pr : Int → Option Int} {cn : Int → Nat} {N N' : Nat} {kSg kRg kNr kLt kPr kCt kBd kCl kSt kRd : KV} {inn : List (Addr × KV)} (h : FK bd pr cn N kSg kRg kNr kLt kPr kCt kBd kCl kSt kRd inn) (hN : N ≤ N') : FK bd pr cn N' kSg kRg kNr kLt kPr kCt kBd kCl kSt kRd inn :=
  ⟨h.rg, h.cl, h.rd, h.st, h.bd, h.pr, by have := h.len; omega, fun p hp => Nat.le_trans (h.inn p hp) hN⟩
theorem FS.le {a : FA} {bd pr : Int → Option Int} {cn : Int → Nat} {N N' : Nat} {l : List (Addr × KV)} (h : FS a bd pr cn N l) (hN : N ≤ N') : FS a bd pr cn N' l := by
  obtain ⟨k1, k2, k3, k4, k5, k6, k7, k8, k9, k10, inn, e, h⟩ := h
  exact ⟨k1, k2, k3, k4, k5, k6, k7, k8, k9, k10, inn, e, h.le hN⟩
theorem FK.setInn {bd pr : Int → Option Int} {cn : Int → Nat} {N j : Nat} {d : Addr} {kv kv' : KV} {kSg kRg kNr kLt kPr kCt kBd kCl kSt kRd : KV} {inn : List (Addr × KV)} (h : FK bd pr cn N kSg kRg kNr kLt kPr kCt kBd kCl kSt kRd inn) (hj : inn[j]? = some (d, kv)) (hl : kv'.length ≤ N + 1) : FK bd pr cn (N + 1) kSg kRg kNr kLt kPr kCt kBd kCl kSt kRd (inn.set j (d, kv')) :=
  ⟨h.rg, h.cl, h.rd, h.st, h.bd, fun x p hx => by
    obtain ⟨h1, i, d2, kv2, h2, h3⟩ := h.pr x p hx
    obtain ⟨kv3, h4⟩ := set_get_other (kv2 := kv') hj h3
    exact ⟨h1, i, d2, kv3, h2, h4⟩, by have := h.len; omega, fun p hp => by
    rcases mem_set_or hp with rfl | hp
    · exact hl
    · exact Nat.le_succ_of_le (h.inn p hp)⟩
theorem FK.ct {bd pr : Int → Option Int} {cn : Int → Nat} {N : Nat} {kSg kRg kNr kLt kPr kCt kCt' kBd kCl kSt kRd : KV} {inn : List (Addr × KV)} (h : FK bd pr cn N kSg kRg kNr kLt kPr kCt kBd kCl kSt kRd inn) (hl : kCt'.length ≤ N) : FK bd pr cn N kSg kRg kNr kLt kPr kCt' kBd kCl kSt kRd inn :=
  ⟨h.rg, h.cl, h.rd, h.st, h.bd, h.pr, by have := h.len; omega, h.inn⟩
local macro_rules | `(tactic| k_mem) => `(tactic| with_reducible first | exact List.mem_cons_self | assumption | (refine List.mem_cons_of_mem _ ?_; k_mem))
local macro_rules | `(tactic| k_places) => `(tactic| with_reducible first | exact fun _ h => h | assumption | (intro p hp; k_mem))
local macro_rules | `(tactic| kat_tups) => `(tactic| with_reducible first | exact List.mem_cons_self | (refine List.mem_cons_of_mem _ ?_; kat_tups))
local macro_rules | `(tactic| keq_rows) => `(tactic| with_reducible first | refine LocQ.here ?_ | (refine LocQ.there ?_; keq_rows))
local macro_rules | `(tactic| keq_hits) => `(tactic| with_reducible first | refine SetQ.here ?_ | refine SetQ.hereN ?_ | (refine SetQ.there ?_; keq_hits) | (refine SetQ.thereN ?_; keq_hits))
local macro_rules | `(tactic| fold_lay) => `(tactic| (refine enter (K := hd.heap_39 _) rfl (by assumption) (by k_is) (by k_is) (by omega) (by exact BindsTo.of_eq rfl) (by exact rfl) (by kernel_rfl) ?_ (by assumption)))
local macro_rules | `(tactic| k_allIn) => `(tactic| with_reducible first | exact sl0 | exact sl1 | exact sl2 | exact sl3 | exact sl4)
local macro_rules | `(tactic| k_ownIn) => `(tactic| with_reducible first | exact tl0 | exact tl1 | exact tl2 | exact tl3 | exact Nat.le_trans (Nat.le_of_eq (IntsAre.length (by assumption))) (by assumption))
local macro_rules | `(tactic| k_subL) => `(tactic| with_reducible first | exact g_CONST _ | exact g_LOCAL _ | exact g_GLOBAL _ | exact g_SET_LOCAL _ | exact g_SET_GLOBAL _ | exact g_DEFINE _ | exact g_LAMBDA _ | exact g_CALL _ | exact g_SEQ _ | exact g_PRIM _ | exact g_FIX _ | exact g_TOP _ | exact g_UNASSIGNED _ | exact g_Const _ | exact g_Local _ | exact g_Global _ | exact g_SetLocal _ | exact g_Lambda _ | exact g_Call _ | exact g_Seq _ | exact g_Fix _ | exact g_are_same_list _ | exact g_rebuilt _ | exact g_let_node _ | exact g_is_let _ | exact g_seq_of _ | exact g_Facts _ | exact g_count_in _ | exact g_note_node _ | exact g_facts_of _ | exact g_Pair _ | exact g_is_unassigned _ | exact g_begun_late _ | exact g_Fixing _ | exact g_fixed _ | exact g_law_draw _ | exact g_law_deck_of _ | exact g_law_one _ | exact g_law_new _ | exact g_law_told _ | exact g_law_value_of _ | exact g_law_late _ | exact g_law_times_set _ | exact g_law_due_of _ | exact kp_Const _ | exact kp_Local _ | exact kp_Global _ | exact kp_SetLocal _ | exact kp_Lambda _ | exact kp_Call _ | exact kp_Seq _ | exact kp_Fix _ | exact kp_are_same_list _ | exact kp_rebuilt _ | exact kp_let_node _ | exact kp_is_let _ | exact kp_seq_of _ | exact kp_Facts _ | exact kp_count_in _ | exact kp_note_node _ | exact kp_facts_of _ | exact kp_Pair _ | exact kp_is_unassigned _ | exact kp_begun_late _ | exact kp_Fixing _ | exact kp_fixed _ | exact kp_law_draw _ | exact kp_law_deck_of _ | exact kp_law_one _ | exact kp_law_new _ | exact kp_law_told _ | exact kp_law_value_of _ | exact kp_law_late _ | exact kp_law_times_set _ | exact kp_law_due_of _ | exact gn_len _ | exact gn_range _ | exact gn_tuple _ | exact gn_isinstance _ | exact gn_int _ | exact gn_bool _ | exact gn_repr _ | exact gn_list _ | exact gn_zip _ | exact gn_abs _ | exact gn_sum _ | exact bt_len | exact bt_isinstance | exact bt_repr | exact bt_abs | exact bt_sum | exact bt_ne_len | exact ne_isinstance | exact ne_repr | exact bt_ne_abs | exact bt_ne_sum | exact bt_ne_range | exact bt_ne_tuple | exact bt_ne_list | exact bt_ne_zip | exact ne_int | exact bt_range | exact bt_tuple | exact bt_list | exact bt_zip | exact bt_int)
local macro_rules | `(tactic| k_clsL) => `(tactic| with_reducible first
  | ((show wpAny _ _ (eval (Expr.Name _ _) _) _ _ _); first
    | (refine ev_loc (by assumption) (by assumption) ?_; keq_rows)
    | refine ev_glob (by assumption) (by assumption) (by k_subL) (by kat_tups) ?_
    | refine ev_cell (by assumption) (by assumption) (by k_dflt rfl) (by k_mem) (by assumption) (by kat_tups) ?_
    | refine ev_bi (by assumption) (by assumption) (by k_subL) (by k_subL) (by k_subL) (by kat_tups) ?_)
  | ((show wpAny _ _ (eval (Expr.Constant _ _ _) _) _ _ _); first
    | (refine ev_int (by assumption) ?_; intro s' tk' S')
    | (refine ev_str (by assumption) ?_; intro s' tk' S')
    | refine PyProof.Rows.Constant_bool ?_)
  | ((show wpAny _ _ (eval (Expr.Attribute _ _ _) _) _ _ _); refine Attribute_any_ ?_ (by k_dflt rfl))
  | ((show wpAny _ _ (eval (Expr.Call (Expr.Name _ _) [_] [] _) _) _ _ _); first
    | refine call1 (by assumption) (by assumption) (by k_subL) (by k_subL) (by kat_tups) ?_ (by k_dflt rfl)
    | refine callB1 (by assumption) (by assumption) (by k_subL) (by k_subL) (by k_subL) (by kat_tups) ?_ (by k_dflt rfl)
    | refine callT (by assumption) (by assumption) (by k_subL) (by k_subL) (by k_subL) (by kat_tups) ?_ (by k_dflt rfl))
  | ((show wpAny _ _ (eval (Expr.Call (Expr.Name _ _) [_, _] [] _) _) _ _ _); first
    | refine call2 (by assumption) (by assumption) (by k_subL) (by k_subL) (by kat_tups) ?_ (by k_dflt rfl) (by k_dflt rfl)
    | refine callB2 (by assumption) (by assumption) (by k_subL) (by k_subL) (by k_subL) (by kat_tups) ?_ (by k_dflt rfl) (by k_dflt rfl)
    | refine callT2 (by assumption) (by assumption) (by k_subL) (by k_subL) (by k_subL) (by kat_tups) ?_ (by k_dflt rfl) (by k_dflt rfl))
  | ((show wpAny _ _ (eval (Expr.Call (Expr.Name _ _) [_, _, _] [] _) _) _ _ _); refine call3 (by assumption) (by assumption) (by k_subL) (by k_subL) (by kat_tups) ?_ (by k_dflt rfl) (by k_dflt rfl) (by k_dflt rfl))
  | ((show wpAny _ _ (eval (Expr.Call (Expr.Name _ _) [_, _, _, _] [] _) _) _ _ _); refine call4 (by assumption) (by assumption) (by k_subL) (by k_subL) (by kat_tups) ?_ (by k_dflt rfl) (by k_dflt rfl) (by k_dflt rfl) (by k_dflt rfl))
  | ((show wpAny _ _ (eval (Expr.Call (Expr.Attribute _ _ _) _ [] _) _) _ _ _); refine MethodCall_ ?_ (by k_dflt rfl))
  | ((show wpAny _ _ (eval (Expr.BoolOp _ _ _) _) _ _ _); first | refine BoolOp_and ?_ | refine BoolOp_or ?_ | refine BoolOp_one ?_)
  | ((show wpAny _ _ (eval (Expr.Compare _ _ _ _) _) _ _ _); refine wpAny_Compare1 ?_ (by k_dflt rfl))
  | ((show wpAny _ _ (eval (Expr.UnaryOp _ _ _) _) _ _ _); refine UnaryOp_ ?_)
  | ((show wpAny _ _ (eval (Expr.Subscript _ _ _) _) _ _ _); refine Subscript_ ?_)
  | ((show wpAny _ _ (eval (Expr.Tuple _ _ _) _) _ _ _); refine Tuple_ ?_)
  | ((show wpAny _ _ (eval (Expr.List _ _ ) _) _ _ _); refine List_ ?_)
  | ((show wpAny _ _ (eval (Expr.BinOp _ _ _ _) _) _ _ _); refine wpAny_BinOp ?_)
  | ((show wpAny _ _ (eval (Expr.Slice _ _ _ _) _) _ _ _); refine wpAny_Slice ?_)
  | ((show wpAny _ _ (eval (Expr.IfExp _ _ _ _) _) _ _ _); refine IfExp_ ?_)
  | ((show wpAny _ _ (exec _ _) _ _ _); first
    | refine wpAny_If ?_
    | refine wpAny_Assign_Name ?_ (by k_dflt rfl)
    | refine wpAny_Return_some ?_
    | refine wpAny_Assign_Subscript ?_ (by k_dflt rfl)
    | refine wpAny_Expr_any ?_ (by k_dflt rfl) (by k_dflt rfl)
    | refine plainObj_wpAny_Assign_Attribute ?_ (by k_dflt rfl))
  | ((show wpAny _ _ (compareOp _ _ _) _ _ _); first
    | refine eq_int_ff (by k_dflt rfl) ?_
    | refine eq_int_tt (by k_dflt rfl) ?_
    | refine in_tup_ff (by assumption) (by k_mem) (.cons _ _ (.cons _ _ .nil)) (by k_dflt rfl) ?_
    | refine in_tup_tt (by assumption) (by k_mem) (.cons _ _ (.cons _ _ .nil)) (by k_dflt rfl) ?_
    | refine wpAny_is_ref_self ?_
    | refine is_int_ref ?_
    | refine PySem.P.lt_int ?_
    | refine PySem.P.gt_int ?_
    | refine eq_int ?_
    | refine ne_int_ff (by k_dflt rfl) ?_
    | refine ne_int_tt (by k_dflt rfl) ?_)
  | ((show wpAny _ _ (getAttr _ _ _) _ _ _); first
    | (refine at_F_read (by assumption) (by assumption) (by k_places) ?_; intro s' S')
    | (refine at_F_set (by assumption) (by assumption) (by k_places) ?_; intro s' S')
    | (refine at_F_called (by assumption) (by assumption) (by k_places) ?_; intro s' S')
    | (refine at_F_bound (by assumption) (by assumption) (by k_places) ?_; intro s' S')
    | (refine at_F_caught (by assumption) (by assumption) (by k_places) ?_; intro s' S')
    | (refine at_F_parent (by assumption) (by assumption) (by k_places) ?_; intro s' S')
    | (refine at_F_lets (by assumption) (by assumption) (by k_places) ?_; intro s' S')
    | (refine at_F_inner (by assumption) (by assumption) (by k_places) ?_; intro s' S')
    | (refine at_F_read_globals (by assumption) (by assumption) (by k_places) ?_; intro s' S')
    | (refine at_F_set_globals (by assumption) (by assumption) (by k_places) ?_; intro s' S')
    | (refine at_kind (by assumption) (by assumption) (by k_places) (by first | assumption | exact rfl) ?_; intro s' tk' S')
    | (refine at_setl_value (by assumption) (by assumption) (by k_places) ?_; intro s' v' S' hv')
    | (refine at_call_operator (by assumption) (by assumption) (by k_places) ?_; intro s' v' S' hv')
    | (refine at_call_operands (by assumption) (by assumption) (by k_places) ?_; intro s' l' vs' e' S' hl' hvs')
    | (refine at_seq_items (by assumption) (by assumption) (by k_places) ?_; intro s' l' vs' e' S' hl' hvs')
    | (refine at_lam_body (by assumption) (by assumption) (by k_places) ?_; intro s' v' S' hv')
    | (refine at_setl_number (by assumption) (by assumption) (by k_places) ?_; intro s' tk' S')
    | (refine at_cint (by assumption) (by assumption) (by k_places) ?_; intro s' tk' S')
    | (refine at_cun (by assumption) (by assumption) (by k_places) ?_; intro s' S')
    | (refine at_loc (by assumption) (by assumption) (by k_places) ?_; intro s' tk' S')
    | (refine at_glob (by assumption) (by assumption) (by k_places) ?_; intro s' tk' S')
    | (refine at_lam_label (by assumption) (by assumption) (by k_places) ?_; intro s' tk' S')
    | (refine at_lam_rest (by assumption) (by assumption) (by k_places) ?_; intro s' tk' S')
    | (refine at_lam_params (by assumption) (by assumption) (by k_places) ?_; intro s' pl' vs' e' S' hp' hi')
    | (refine at_fix_numbers (by assumption) (by assumption) (by k_places) ?_; intro s' pl' vs' e' S' hp' hi'))
  | ((show wpAny _ _ (getMethod _ _ _) _ _ _); first
    | refine lmeth (by assumption) (by k_mem) PySem.F.slot_list_pop PySem.F.type_list_pop ?_
    | refine lmeth (by assumption) (by k_mem) PySem.F.slot_list_append PySem.F.type_list_append ?_
    | refine lmeth (by assumption) (by k_mem) PySem.F.slot_list_insert PySem.F.type_list_insert ?_)
  | ((show wpAny _ _ (callWith _ _ _ _ _) _ _ _); first
    | refine callWith_method1 ?_ (by k_dflt rfl) (by k_dflt rfl)
    | refine callWith_method0 ?_)
  | ((show wpAny _ _ (call _ _) _ _ _); first
    | (refine tuple_of (by assumption) (by k_mem) (by k_ownIn) ?_; intro D' s' S')
    | (refine isi_int (by assumption) (by k_mem) ?_; intro s' S')
    | (refine isi_un (by assumption) (by k_mem) ?_; intro s' S')
    | (refine isi_pair (by assumption) ?_; intro s' S')
    | (refine rp_int (by assumption) ?_; intro s' tk' S'))
  | ((show wpAny _ _ (PySem.isTrue _ _ _) _ _ _); first
    | refine wpAny_isTrue_Compare1 ?_ (by k_dflt rfl)
    | refine isTrue_and ?_
    | refine isTrue_and_nil ?_
    | refine isTrue_or ?_
    | refine isTrue_or_nil ?_
    | refine isTrue_not ?_
    | refine isTrue_plain ?_ (by k_dflt rfl))
  | ((show wpAny _ _ (binaryOp _ _ _) _ _ _); first
    | (refine addS (by assumption) ?_; intro s' tk' S')
    | (refine subS (by assumption) ?_; intro s' tk' S'))
  | ((show wpAny _ _ (unaryOp _ _) _ _ _); refine negS (by assumption) ?_; intro s' tk' S')
  | ((show wpAny _ _ (subscriptTail _ _ _ _) _ _ _); first
    | refine own0 (by assumption) (by decide) (by decide) (by k_dflt rfl) ?_ (by k_dflt rfl))
  | ((show wpAny _ _ (PySem.setItem _ _ _) _ _ _); first
    | (refine set0 (by assumption) ?_; intro s' S')
    | (refine set1 (by assumption) ?_; intro s' S'))
  | ((show _ ∧ wpAny _ _ _ _ _ _); refine And.intro (St.kin (by assumption)) ?_)
  | ((show wpAny _ _ (PySem.evalPart _ _) _ _ _); first | refine evalPart_none_step ?_ | refine evalPart_some_step ?_)
  | refine wpAny_execs_cons ?_
  | refine sp1 ?_ (by k_dflt rfl)
  | refine sp0 ?_
  | refine wpAny_truthy_bool ?_
  | refine ite_ff ?_
  | refine ite_tt ?_
  | refine ite_dt (by k_dflt rfl) ?_
  | refine ite_df (by k_dflt rfl) ?_
  | (refine st_loc (by assumption) (by assumption) ?_; keq_hits; intro s' S')
  | (refine nl_flag (by assumption) (by assumption) ?_ (by k_allIn); intro l' s' S')
  | (refine nl (by assumption) ?_ (by k_allIn); intro l' s' S')
  | (refine nt (by assumption) ?_ (by k_allIn); intro l' s' S')
  | refine wpAny_execs_nil ?_
  )
local macro_rules | `(tactic| k_offL) => `(tactic| repeat k_clsL)

section
variable {w : World} {P : Led}
theorem meet {c : Cx} {m : Str → Option Value} {cells rest : Led} {l : List (Addr × KV)} {s : Shared} {Q E : Value → Shared → Prop} {F : Addr} {a : FA} {bd pr : Int → Option Int} {cn : Int → Nat} {N k : Nat} {n lab b : Int} {u1 u2 : Tok}
    (hF : FObj w P F a) (D : Dcs w cells l) (S : St w c m (cells ++ rest) P s) (hfs : FS a bd pr cn N l) (hb : bd n = some b) (hch : Chain pr b lab k) (hN : N + k ≤ 800000) (hdp : c.A.depth + 1 < recursionLimit)
    (ret : ∀ cells' l' s', Dcs w cells' l' → FS a bd pr cn (N + k) l' → St w c m (cells' ++ rest) P s' → Q .none s') : wpAny (model PySem.Challenge.rw_pq1024_01.row.prog w) c.A (call (.ref 376) [.ref F, .int n u1, .int lab u2]) Q E s := by
  have X := S.X
  refine wpAny_call ?_
  refine enterG (K := hd.heap_39 _) (cells := cells) (rest := rest) (P := P) (Out := fun cs P' r => ∃ l', r = .none ∧ Dcs w cs l' ∧ FS a bd pr cn (N + k) l') rfl S (by k_is) (by k_is) (by omega) (by exact BindsTo.of_eq rfl) (by exact rfl) (by kernel_rfl) ?_ ?_
  rotate_left
  · rintro r cells' P' s' S' hs ⟨l', rfl, hD, hf⟩
    exact ret _ _ _ hD hf (S'.sub hs)
  intro c' s' gN hd' hu' S'
  dsimp only [List.map] at S'
  clear ret S hdp hd' hu'
  rw [← List.append_nil cells] at S'
  k_offL
  refine cutN gN (fun ns f s' => f = .next ∧ ∃ m' cells' l', Dcs w cells' l' ∧ FS a bd pr cn (N + k) l' ∧ St w c' m' (cells' ++ []) P s') ?_ ?_
  · refine whileR (fun j s => ∃ lb tk cells l, j ≤ k ∧ Chain pr b lb j ∧ Dcs w cells l ∧ FS a bd pr cn (N + (k - j)) l ∧ St w c' (asg _ [some (.ref F), some (.int n u1), some (.int lab u2), some (.int lb tk)]) (cells ++ []) P s) ?_ k _ ⟨lab, u2, cells, l, Nat.le_refl _, hch, D, by rw [Nat.sub_self]; exact hfs, by assumption⟩
    clear D hfs hch S'
    rintro j s1 ⟨lb, tk, cells, l, hjk, hch, D, ⟨kSg, kRg, kNr, kLt, kPr, kCt, kBd, kCl, kSt, kRd, inn, rfl, hK⟩, S1⟩
    obtain ⟨tb, htb⟩ := hK.bd n b hb
    k_offL
    refine ditem (i := 6) D (by assumption) rfl htb ?_ (by k_dflt rfl)
    intro s2 S2
    refine PyProof.Rows.ne_int ?_
    k_offL
    refine ifB (fun hne => ?_) (fun hne => ?_)
    rotate_left
    · k_offL
      exact ⟨rfl, _, cells, _, D, ⟨_, _, _, _, _, _, _, _, _, _, _, rfl, hK.le (by omega)⟩, by assumption⟩
    cases hch with
    | here => simp at hne
    | @up _ p j hpr hch =>
    obtain ⟨⟨tp, htp⟩, jj, di, kvi, hnr, hin⟩ := hK.pr lb p hpr
    have hil := hK.inn _ (mem_of_get hin)
    have hlen := hK.len
    dsimp only at hil
    k_offL
    refine ditem (i := 2) D (by assumption) rfl hnr ?_ (by k_dflt rfl)
    intro s3 S3
    k_offL
    refine dset (i := jj + 10) D (by assumption) (by exact hin) (by omega) ?_
    intro cells2 s4 D2 S4
    have D2' : Dcs w cells2 (fl a kSg kRg kNr kLt kPr kCt kBd kCl kSt kRd (inn.set jj (di, stored kvi n (.bool true)))) := D2
    have hK2 := hK.setInn (kv' := stored kvi n (.bool true)) hin (Nat.le_trans (len_stored _ _ _) (by omega))
    clear D D2 S1 S2 S3
    k_offL
    refine dnotin (i := 3) D2' (by assumption) rfl ?_
    intro s5 S5
    k_offL
    have hkj : N + (k - (j + 1)) + 1 ≤ N + (k - j) := by omega
    refine ifB (fun hb2 => ?_) (fun hb2 => ?_)
    · k_offL
      refine dset (i := 5) D2' (by assumption) rfl (by omega) ?_
      intro cells3 s6 D3 S6
      have D3' : Dcs w cells3 (fl a kSg kRg kNr kLt kPr (stored kCt n (.bool true)) kBd kCl kSt kRd (inn.set jj (di, stored kvi n (.bool true)))) := D3
      k_offL
      refine ditem (i := 4) D3' (by assumption) rfl htp ?_ (by k_dflt rfl)
      intro s7 S7
      k_offL
      exact ⟨j, Nat.lt_succ_self j, p, tp, cells3, _, by omega, hch, D3', ⟨_, _, _, _, _, _, _, _, _, _, _, rfl, (hK2.ct (Nat.le_trans (len_stored _ _ _) (by omega))).le hkj⟩, by assumption⟩
    · k_offL
      refine ditem (i := 4) D2' (by assumption) rfl htp ?_ (by k_dflt rfl)
      intro s7 S7
      k_offL
      exact ⟨j, Nat.lt_succ_self j, p, tp, cells2, _, by omega, hch, D2', ⟨_, _, _, _, _, _, _, _, _, _, _, rfl, hK2.le hkj⟩, by assumption⟩
  · rintro f s1 ⟨rfl, m', cells', l', D1, hf1, S1⟩
    dsimp only
    k_offL
    exact ⟨_, cells', [], P, by assumption, fun _ h => h, l', rfl, D1, hf1⟩
end
def bdU (bd : Int → Option Int) : T → Int → Option Int
  | .lam l ps _ => fun x => if ps.contains x then some l else bd x
  | _ => bd
def prU (pr : Int → Option Int) (lab : Int) : T → Int → Option Int
  | .lam l _ _ => fun x => if x = l then some lab else pr x
  | _ => pr
def cnU (cn : Int → Nat) : T → Int → Nat
  | .setl n _ => fun x => if x = n then cn n + 1 else cn x
  | _ => cn
theorem fmm_379 (w : World) : findIn (hd.heap_39 w.params) (.ref 379) (Str.ofString "meet") = some (some (.ref 376)) := by kernel_rfl
theorem isfn_376 (w : World) : isFn (hd.heap_39 w.params) (.ref 376) = true := by kernel_rfl
theorem kpf_376 (w : World) : keepIn (hd.heap_39 w.params) (.ref 376) = true := by kernel_rfl
theorem fmb_184 (w : World) : findIn (hd.heap_39 w.params) (.ref 184) (Str.ofString "binders") = some (some (.ref 174)) := by kernel_rfl
theorem isfn_174 (w : World) : isFn (hd.heap_39 w.params) (.ref 174) = true := by kernel_rfl
theorem kpf_174 (w : World) : keepIn (hd.heap_39 w.params) (.ref 174) = true := by kernel_rfl
theorem FS.any {a : FA} {bd pr : Int → Option Int} {cn : Int → Nat} {N : Nat} {l : List (Addr × KV)} (h : FS a bd pr cn N l) (k : ∀ kSg kRg kNr kLt kPr kCt kBd kCl kSt kRd inn, l = fl a kSg kRg kNr kLt kPr kCt kBd kCl kSt kRd inn → FK bd pr cn N kSg kRg kNr kLt kPr kCt kBd kCl kSt kRd inn → False) : False := by
  obtain ⟨k1, k2, k3, k4, k5, k6, k7, k8, k9, k10, inn, e, h⟩ := h
  exact k _ _ _ _ _ _ _ _ _ _ _ e h
theorem kind1 {t : T} (h : t.kind = 1) : ∃ n, t = .loc n := by cases t <;> first | exact ⟨_, rfl⟩ | cases h

section
variable {w : World} {P : Led}
theorem binders {x : Addr} {l : Int} {ps : List Int} {b : T} (h : Nd w P x (.lam l ps b)) (hz : ps.length ≤ 4000) : Pure w 3 P (call (.ref 174) [.ref x]) fun P' r => ∃ l vs e, r = .ref l ∧ (l, listOf vs.toArray e) ∈ P' ∧ IntsAre vs ps := by
  intro c m own s Q E S hdp hu ret
  have X := S.X
  refine wpAny_call ?_
  fold_lay
  clear ret S
  intro c' s' gN hd' hu' S'
  dsimp only [List.map] at S'
  k_offL
  refine PySem.P.ge_int ?_
  k_offL
  refine list_of (xs := _) (by assumption) (by assumption) (fits_le (by rw [IntsAre.length (by assumption)]; omega)) ?_
  intro D e1 s2 S2
  exact ⟨_, [], [], _, S2, fun p hp => .tail _ hp, (by rfl), D, _, _, rfl, .head _, by assumption⟩
theorem note_node {c : Cx} {m : Str → Option Value} {cells rest : Led} {l : List (Addr × KV)} {s : Shared} {Q E : Value → Shared → Prop} {F x : Addr} {a : FA} {bd pr : Int → Option Int} {cn : Int → Nat} {N : Nat} {lab : Int} {u2 : Tok} {t : T}
    (hF : FObj w P F a) (hN : Nd w P x t) (hnf : noFix t = true) (hz : t.size ≤ 4000) (D : Dcs w cells l) (S : St w c m (cells ++ rest) P s) (hfs : FS a bd pr cn N l)
    (hmeet : ∀ n, (t = .loc n ∨ ∃ v, t = .setl n v) → ∃ b k, bd n = some b ∧ Chain pr b lab k ∧ k ≤ 60) (hNN : N ≤ 700000) (hdp : c.A.depth + 6 < recursionLimit) (hu : c.A.units + 80 < cLine)
    (ret : ∀ cells' l' P' s', Dcs w cells' l' → FS a (bdU bd t) (prU pr lab t) (cnU cn t) (N + 70 + t.nums) l' → St w c m (cells' ++ rest) P' s' → (∀ p ∈ P, p ∈ P') → Q .none s') : wpAny (model PySem.Challenge.rw_pq1024_01.row.prog w) c.A (call (.ref 397) [.ref F, .ref x, .int lab u2]) Q E s := by
  have X := S.X
  refine wpAny_call ?_
  refine enterG (K := hd.heap_39 _) (cells := cells) (rest := rest) (P := P) (Out := fun cs P' r => ∃ l', r = .none ∧ Dcs w cs l' ∧ FS a (bdU bd t) (prU pr lab t) (cnU cn t) (N + 70 + t.nums) l') rfl S (by k_is) (by k_is) (by omega) (by exact BindsTo.of_eq rfl) (by exact rfl) (by kernel_rfl) ?_ ?_
  rotate_left
  · rintro r cells' P' s' S' hs ⟨l', rfl, hD, hf⟩
    exact ret _ _ _ _ hD hf S' hs
  intro c' s' gN hd' hu' S'
  dsimp only [List.map] at S'
  have d2 : c'.A.depth + 2 < recursionLimit := by omega
  have u2' : c'.A.units + 8 * 2 < cLine := by omega
  have d3 : c'.A.depth + 3 < recursionLimit := by omega
  have u3' : c'.A.units + 8 * 3 < cLine := by omega
  clear ret S hdp hd' hu' hu
  rw [← List.append_nil cells] at S'
  obtain ⟨kSg, kRg, kNr, kLt, kPr, kCt, kBd, kCl, kSt, kRd, inn, rfl, hK⟩ := hfs
  have hlen := hK.len
  have done : ∀ m' cells' l' P' s', St w c' m' (cells' ++ []) P' s' → (∀ p ∈ P, p ∈ P') → Dcs w cells' l' → FS a (bdU bd t) (prU pr lab t) (cnU cn t) (N + 70 + t.nums) l' → Ends w c' P (fun cs P' r => ∃ l', r = .none ∧ Dcs w cs l' ∧ FS a (bdU bd t) (prU pr lab t) (cnU cn t) (N + 70 + t.nums) l') .none s' :=
    fun m' cells' l' P' s' S hs hD hf => ⟨m', cells', [], P', S, hs, l', rfl, hD, hf⟩
  cases t
  case fix => cases hnf
  case cint =>
    k_offL
    exact done _ _ _ _ _ (by assumption) (by k_places) D ⟨_, _, _, _, _, _, _, _, _, _, _, rfl, hK.le (by omega)⟩
  case cun =>
    k_offL
    exact done _ _ _ _ _ (by assumption) (by k_places) D ⟨_, _, _, _, _, _, _, _, _, _, _, rfl, hK.le (by omega)⟩
  case seq =>
    k_offL
    exact done _ _ _ _ _ (by assumption) (by k_places) D ⟨_, _, _, _, _, _, _, _, _, _, _, rfl, hK.le (by omega)⟩
  case glob n =>
    obtain ⟨cnt, hc⟩ := hK.rg n
    k_offL
    refine count_in (i := 1) D (by assumption) rfl hc.getD (by omega) (by omega) ?_
    intro cells1 tk1 s1 D1 S1
    k_offL
    have hl1 := len_stored kRg n (.int ((cnt : Nat) + 1 : Int) tk1)
    exact done _ _ _ _ _ (by assumption) (by k_places) D1 ⟨_, _, _, _, _, _, _, _, _, _, _, rfl, ⟨hK.rg.put, hK.cl, hK.rd, hK.st, hK.bd, hK.pr, by omega, fun p hp => Nat.le_trans (hK.inn p hp) (by omega)⟩⟩
  case loc n =>
    obtain ⟨b, k, hb, hch, hk⟩ := hmeet n (.inl rfl)
    obtain ⟨cnt, hc⟩ := hK.rd n
    obtain ⟨dF, t0, t1, t2, t3, t4, t5, t6, t7, t8, t9, hF1, hF2⟩ := id hF
    k_offL
    refine count_in (i := 9) D (by assumption) rfl hc.getD (by omega) (by omega) ?_
    intro cells1 tk1 s1 D1 S1
    k_offL
    have hl1 := len_stored kRd n (.int ((cnt : Nat) + 1 : Int) tk1)
    refine meth2 (by assumption) hF1 hF2 (pg_Facts w _) (fmm_379 w) (isfn_376 w) (by exact rfl) (kpf_376 w) ?_ (by k_dflt rfl) (by k_dflt rfl)
    k_offL
    refine meet (N := N + 1) hF D1 (by assumption) ⟨_, _, _, _, _, _, _, _, _, _, _, rfl, ⟨hK.rg, hK.cl, hK.rd.put, hK.st, hK.bd, hK.pr, by omega, fun p hp => Nat.le_trans (hK.inn p hp) (by omega)⟩⟩ hb hch (by omega) (by omega) ?_
    intro cells2 l2 s2 D2 hf2 S2
    k_offL
    exact done _ _ _ _ _ (by assumption) (by k_places) D2 (hf2.le (by omega))
  case setl n v =>
    obtain ⟨b, k, hb, hch, hk⟩ := hmeet n (.inr ⟨v, rfl⟩)
    have hc := hK.st n
    obtain ⟨dF, t0, t1, t2, t3, t4, t5, t6, t7, t8, t9, hF1, hF2⟩ := id hF
    k_offL
    refine count_in (i := 8) D (by assumption) rfl hc.getD (by omega) (by omega) ?_
    intro cells1 tk1 s1 D1 S1
    k_offL
    have hl1 := len_stored kSt n (.int ((cn n : Nat) + 1 : Int) tk1)
    refine meth2 (by assumption) hF1 hF2 (pg_Facts w _) (fmm_379 w) (isfn_376 w) (by exact rfl) (kpf_376 w) ?_ (by k_dflt rfl) (by k_dflt rfl)
    k_offL
    have hst : ∀ x, CntIs (stored kSt n (.int ((cn n : Nat) + 1 : Int) tk1)) x (cnU cn (.setl n v) x) := fun x => by
      show CntIs _ x (if x = n then cn n + 1 else cn x)
      by_cases hx : x = n
      · subst hx; rw [if_pos rfl]; exact CntIs.put
      · rw [if_neg hx]; exact (hK.st x).other hx
    refine meet (N := N + 1) (cn := cnU cn (.setl n v)) hF D1 (by assumption) ⟨_, _, _, _, _, _, _, _, _, _, _, rfl, ⟨hK.rg, hK.cl, hK.rd, hst, hK.bd, hK.pr, by omega, fun p hp => Nat.le_trans (hK.inn p hp) (by omega)⟩⟩ hb hch (by omega) (by omega) ?_
    intro cells2 l2 s2 D2 hf2 S2
    k_offL
    exact done _ _ _ _ _ (by assumption) (by k_places) D2 (hf2.le (by omega))
  case lam ll ps b =>
    have hpz : ps.length ≤ 4000 := by simp only [T.size] at hz; omega
    have hnums : (T.lam ll ps b).nums = ps.length := rfl
    k_offL
    refine dset (i := 4) D (by assumption) rfl (by omega) ?_
    intro cells1 s1 D1 S1
    k_offL
    refine dnew (by assumption) ?_
    intro d0 o0 s2 hd0 hl0 S2
    have D2 : Dcs w (cells1 ++ [(d0, o0)]) (fl a kSg kRg kNr kLt (stored kPr ll (.int lab u2)) kCt kBd kCl kSt kRd (inn ++ [(d0, [])])) := D1.append (.cons hd0 hl0 .nil)
    have S3 := S2.perm (own' := (cells1 ++ [(d0, o0)]) ++ []) (by rw [List.append_nil, List.append_nil]; exact List.perm_append_comm (l₁ := [(d0, o0)]) (l₂ := cells1))
    clear S1 S2 D1 D
    k_offL
    refine dset (i := 2) D2 (by assumption) rfl (by omega) ?_
    intro cells3 s4 D3 S4
    have D3' : Dcs w cells3 (fl a kSg kRg (stored kNr ll (.ref d0)) kLt (stored kPr ll (.int lab u2)) kCt kBd kCl kSt kRd (inn ++ [(d0, [])])) := D3
    clear D3 D2 S3
    have hK3 : FK bd (prU pr lab (.lam ll ps b)) cn (N + 1) kSg kRg (stored kNr ll (.ref d0)) kLt (stored kPr ll (.int lab u2)) kCt kBd kCl kSt kRd (inn ++ [(d0, [])]) := by
      have h1 := len_stored kPr ll (.int lab u2)
      have h2 := len_stored kNr ll (.ref d0)
      refine ⟨hK.rg, hK.cl, hK.rd, hK.st, hK.bd, fun x p hx => ?_, by omega, fun p hp => ?_⟩
      · have hx' : (if x = ll then some lab else pr x) = some p := hx
        rw [valueAt_stored, valueAt_stored]
        by_cases e : x = ll
        · rw [if_pos e] at hx' ⊢
          rw [if_pos e]
          cases hx'
          exact ⟨⟨u2, rfl⟩, inn.length, d0, [], rfl, by simp⟩
        · rw [if_neg e] at hx' ⊢
          rw [if_neg e]
          obtain ⟨g1, j, d, kv, g2, g3⟩ := hK.pr x p hx'
          refine ⟨g1, j, d, kv, g2, ?_⟩
          have hj : j < inn.length := by
            rcases Nat.lt_or_ge j inn.length with h' | h'
            · exact h'
            · rw [List.getElem?_eq_none h'] at g3; cases g3
          rw [List.getElem?_append_left hj]; exact g3
      · rcases List.mem_append.mp hp with hp | hp
        · exact Nat.le_trans (hK.inn p hp) (by omega)
        · rw [List.mem_singleton.mp hp]; exact Nat.zero_le _
    k_offL
    refine For_ (by assumption) ?_ (by k_dflt exact fun _ => rfl)
    k_offL
    cases id hN with
    | lam h1 h2 h3 h4 h5 =>
    refine method_inst (St.F (by assumption)) (St.X (by assumption)) (inst_at (by assumption) (.tail _ h1) (.tail _ h2)) (pg_Lambda w _) (fmb_184 w) (isfn_174 w) (by exact rfl) ?_
    refine callWith_K0 (St.kin (by assumption)) (kpf_174 w) ?_
    refine useP (binders (hN.mono fun p hp => .tail _ hp) hpz) (by assumption) d3 u3' ?_
    rintro r P5 s5 S5 hs5 ⟨lb, pv, ev, rfl, hlb, hpv⟩
    have hpl := hpv.length
    have hN5 := hN.mono fun p hp => hs5 _ (.tail _ hp)
    have hF5 := hF.mono fun p hp => hs5 _ (.tail _ hp)
    refine forL (vals := [some (.ref F), some (.ref x), some (.int lab u2), none]) (St.pad 1 (vs := [some (.ref F), some (.ref x), some (.int lab u2)]) (by assumption)) gN hlb (fun i vals₁ own₁ P₁ => ∃ v4 l, vals₁ = [some (.ref F), some (.ref x), some (.int lab u2), v4] ∧ Dcs w own₁ l ∧ (∀ p ∈ P5, p ∈ P₁) ∧ FS a (fun x => if (ps.take i).contains x then some ll else bd x) (prU pr lab (.lam ll ps b)) cn (N + 1 + i) l)
      ⟨none, _, rfl, by rw [List.append_nil]; exact D3', fun _ h => h, ⟨_, _, _, _, _, _, _, _, _, _, _, rfl, hK3⟩⟩ ?_ ?_
    · rintro i v vals₁ own₁ P₁ P₁' W s₁ hi hv ⟨v4, l1, rfl, D4, hP4, ⟨kSg, kRg, kNr, kLt, kPr, kCt, kBd, kCl, kSt, kRd, inn, rfl, hK4⟩⟩ S6 hs6
      obtain ⟨n, tk, rfl, hn⟩ := hpv.at _ _ hv
      have hlen4 := hK4.len
      keq_hits
      intro s7 S7
      have hN7 := hN5.mono fun p hp => hs6 _ (hP4 p hp)
      have hF7 := hF5.mono fun p hp => hs6 _ (hP4 p hp)
      clear hN hN5 hF hF5 S5 S4 S6
      k_offL
      refine dset (i := 6) D4 (by assumption) rfl (by omega) ?_
      intro cells8 s8 D8 S8
      rename_i tkl _ _ _
      have hl8 := len_stored kBd n (.int ll tkl)
      k_offL
      refine ⟨_, cells8, P₁', S8, fun _ h => h, _, _, rfl, D8, fun p hp => hs6 _ (hP4 _ hp), ⟨_, _, _, _, _, _, _, _, _, _, _, rfl, ⟨hK4.rg, hK4.cl, hK4.rd, hK4.st, fun y b' hy => ?_, hK4.pr, by omega, fun p hp => Nat.le_trans (hK4.inn p hp) (by omega)⟩⟩⟩
      have hy' : (if (ps.take (i + 1)).contains y then some ll else bd y) = some b' := hy
      rw [List.take_add_one, hn] at hy'
      rw [valueAt_stored]
      by_cases e : y = n
      · rw [if_pos e]
        rw [if_pos (by rw [e]; simp)] at hy'
        cases hy'
        exact ⟨_, rfl⟩
      · rw [if_neg e]
        have e2 : (ps.take i ++ (some n).toList).contains y = (ps.take i).contains y := by
          rw [Bool.eq_iff_iff]; simp [e]
        rw [e2] at hy'
        exact hK4.bd y b' hy'
    · rintro vals' own' P' s6 S6 ⟨v4, l1, rfl, D4, hP4, hf4⟩
      dsimp only
      rw [hpl, List.take_length] at hf4
      k_offL
      exact done _ own' _ P' _ (by rw [List.append_nil]; assumption) (fun p hp => hP4 _ (hs5 _ (.tail _ hp))) D4 (hf4.le (by omega))
  case call f xs =>
    k_offL
    refine ifB (fun hb => ?_) (fun hb => ?_)
    · obtain ⟨n, rfl⟩ := kind1 (eq_of_beq hb)
      obtain ⟨cnt, hc⟩ := hK.cl n
      k_offL
      refine count_in (i := 7) D (by assumption) rfl hc.getD (by omega) (by omega) ?_
      intro cells1 tk1 s1 D1 S1
      have hl1 := len_stored kCl n (.int ((cnt : Nat) + 1 : Int) tk1)
      k_offL
      refine useP (is_let (hN.mono fun p hp => List.mem_cons_of_mem _ hp) hz) (by assumption) d2 u2' ?_
      rintro r P2 s2 S2 hs2 rfl
      have hfa : isLet (T.call (.loc n) xs) = false := rfl
      rw [hfa]
      k_offL
      exact done _ _ _ _ _ (by assumption) (fun p hp => hs2 _ (.tail _ hp)) D1 ⟨_, _, _, _, _, _, _, _, _, _, _, rfl, ⟨hK.rg, hK.cl.put, hK.rd, hK.st, hK.bd, hK.pr, by omega, fun p hp => Nat.le_trans (hK.inn p hp) (by omega)⟩⟩
    · k_offL
      refine useP (is_let (hN.mono fun p hp => List.mem_cons_of_mem _ hp) hz) (by assumption) d2 u2' ?_
      rintro r P2 s2 S2 hs2 rfl
      k_offL
      refine ifB (fun hb2 => ?_) (fun hb2 => ?_)
      · obtain ⟨l2, ps, b, xs2, e, _⟩ := isLet_true hb2
        cases e
        have hN2 := hN.mono fun p hp => hs2 _ (.tail _ hp)
        have hF2 := hF.mono fun p hp => hs2 _ (.tail _ hp)
        clear hN hF
        k_offL
        refine dset (i := 3) D (by assumption) rfl (by omega) ?_
        intro cells3 s3 D3 S3
        k_offL
        have hl3 := len_stored kLt l2 (.bool true)
        exact done _ _ _ _ _ (by assumption) (fun p hp => hs2 _ (.tail _ hp)) D3 ⟨_, _, _, _, _, _, _, _, _, _, _, rfl, ⟨hK.rg, hK.cl, hK.rd, hK.st, hK.bd, hK.pr, by omega, fun p hp => Nat.le_trans (hK.inn p hp) (by omega)⟩⟩
      · k_offL
        exact done _ _ _ _ _ (by assumption) (fun p hp => hs2 _ (.tail _ hp)) D ⟨_, _, _, _, _, _, _, _, _, _, _, rfl, hK.le (by omega)⟩
end
def T.hereLab : T → List Int
  | .lam l _ _ => [l]
  | _ => []
def T.hereBind : T → List Int
  | .lam _ ps _ => ps
  | _ => []
theorem labs_eq (t : T) : labs t = t.hereLab ++ labss t.kids := by
  cases t <;> simp [labs, T.hereLab, T.kids, labss, labss_append]
theorem binds_eq (t : T) : binds t = t.hereBind ++ bindss t.kids := by
  cases t <;> simp [binds, T.hereBind, T.kids, bindss, bindss_append]
def within (lab : Int) : T → Int
  | .lam l _ _ => l
  | _ => lab
def VOk (bd pr : Int → Option Int) (t : T) (lab : Int) : Prop := ∃ vis, Sc vis t ∧ ∀ n ∈ vis, ∃ b k, bd n = some b ∧ Chain pr b lab k ∧ k + t.dep ≤ 60
structure FInv (root : T) (bd pr : Int → Option Int) (cn : Int → Nat) (ws : List (T × Int)) : Prop where
  ok : ∀ p ∈ ws, VOk bd pr p.1 p.2
  ln : (labss (ws.map (·.1))).Nodup
  lf : ∀ l ∈ labss (ws.map (·.1)), pr l = none
  bn : (bindss (ws.map (·.1))).Nodup
  bf : ∀ n ∈ bindss (ws.map (·.1)), bd n = none
  ct : ∀ x, cn x + (setns (ws.map (·.1))).count x = (setn root).count x
theorem prU_keep {pr : Int → Option Int} {lab : Int} {t : T} (h : ∀ l ∈ t.hereLab, pr l = none) {x p : Int} (hx : pr x = some p) : prU pr lab t x = some p := by
  cases t with
  | lam l ps b =>
    show (if x = l then some lab else pr x) = some p
    rw [if_neg (fun e => by rw [e, h l (.head _)] at hx; cases hx)]; exact hx
  | _ => exact hx
theorem bdU_keep {bd : Int → Option Int} {t : T} (h : ∀ n ∈ t.hereBind, bd n = none) {x b : Int} (hx : bd x = some b) : bdU bd t x = some b := by
  cases t with
  | lam l ps b' =>
    show (if ps.contains x then some l else bd x) = some b
    rw [if_neg (fun e => by rw [h x (show x ∈ ps by simpa using e)] at hx; cases hx)]; exact hx
  | _ => exact hx
theorem prU_none {pr : Int → Option Int} {lab : Int} {t : T} {x : Int} (h : x ∉ t.hereLab) (hx : pr x = none) : prU pr lab t x = none := by
  cases t with
  | lam l ps b =>
    show (if x = l then some lab else pr x) = none
    rw [if_neg (fun e => h (by rw [e]; exact .head _))]; exact hx
  | _ => exact hx
theorem bdU_none {bd : Int → Option Int} {t : T} {x : Int} (h : x ∉ t.hereBind) (hx : bd x = none) : bdU bd t x = none := by
  cases t with
  | lam l ps b' =>
    show (if ps.contains x then some l else bd x) = none
    rw [if_neg (fun e => h (by show x ∈ ps; simpa using e))]; exact hx
  | _ => exact hx
theorem VOk.keep {bd pr : Int → Option Int} {lab : Int} {t : T} (h1 : ∀ l ∈ t.hereLab, pr l = none) (h2 : ∀ n ∈ t.hereBind, bd n = none) {u : T} {lb : Int} (h : VOk bd pr u lb) : VOk (bdU bd t) (prU pr lab t) u lb := by
  obtain ⟨vis, hs, hv⟩ := h
  refine ⟨vis, hs, fun n hn => ?_⟩
  obtain ⟨b, k, e1, e2, e3⟩ := hv n hn
  exact ⟨b, k, bdU_keep h2 e1, e2.mono fun x p hx => prU_keep h1 hx, e3⟩
theorem VOk.kid {bd pr : Int → Option Int} {lab : Int} {t k : T} (h1 : ∀ l ∈ t.hereLab, pr l = none) (h2 : ∀ n ∈ t.hereBind, bd n = none) (h : VOk bd pr t lab) (hd : t.dep ≤ 60) (hk : k ∈ t.kids) : VOk (bdU bd t) (prU pr lab t) k (within lab t) := by
  have hkd := dep_kid hk
  obtain ⟨vis, hs, hv⟩ := h
  have plain : (within lab t = lab) → Sc vis k → VOk (bdU bd t) (prU pr lab t) k (within lab t) := fun e hs => by
    rw [e]
    refine ⟨vis, hs, fun n hn => ?_⟩
    obtain ⟨b, j, e1, e2, e3⟩ := hv n hn
    exact ⟨b, j, bdU_keep h2 e1, e2.mono fun x p hx => prU_keep h1 hx, by omega⟩
  cases t with
  | cint i => cases hk
  | cun => cases hk
  | loc n => cases hk
  | glob n => cases hk
  | setl n v => cases List.mem_singleton.mp hk; exact plain rfl hs.2
  | lam l ps b =>
    cases List.mem_singleton.mp hk
    refine ⟨ps ++ vis, hs, fun n hn => ?_⟩
    by_cases hp : n ∈ ps
    · refine ⟨l, 0, ?_, .here, by omega⟩
      show (if ps.contains n then some l else bd n) = some l
      rw [if_pos (by simpa using hp)]
    · rcases List.mem_append.mp hn with hn | hn
      · exact absurd hn hp
      · obtain ⟨b', j, e1, e2, e3⟩ := hv n hn
        refine ⟨b', j + 1, bdU_keep h2 e1, .up (p := lab) ?_ (e2.mono fun x p hx => prU_keep h1 hx), by omega⟩
        show (if l = l then some lab else pr l) = some lab
        rw [if_pos rfl]
  | call f xs =>
    rcases List.mem_cons.mp hk with rfl | hk
    · exact plain rfl hs.1
    · exact plain rfl (Scs_mem hs.2 hk)
  | seq xs => exact plain rfl (Scs_mem hs hk)
  | fix ns ls b => exact hs.elim
theorem FInv.step {root t : T} {lab : Int} {bd pr : Int → Option Int} {cn : Int → Nat} {ws : List (T × Int)} (h : FInv root bd pr cn ((t, lab) :: ws)) (hd : t.dep ≤ 60) :
    FInv root (bdU bd t) (prU pr lab t) (cnU cn t) (t.kids.map (fun k => (k, within lab t)) ++ ws) := by
  have em : (t.kids.map (fun k => (k, within lab t)) ++ ws).map (·.1) = t.kids ++ ws.map (·.1) := by
    rw [List.map_append, List.map_map]
    congr 1
    exact List.map_id t.kids
  have el : labss (((t, lab) :: ws).map (·.1)) = t.hereLab ++ (labss t.kids ++ labss (ws.map (·.1))) := by
    rw [List.map_cons, labss, labs_eq, List.append_assoc]
  have eb : bindss (((t, lab) :: ws).map (·.1)) = t.hereBind ++ (bindss t.kids ++ bindss (ws.map (·.1))) := by
    rw [List.map_cons, bindss, binds_eq, List.append_assoc]
  have h1 := h.ln
  have h2 := h.lf
  have h3 := h.bn
  have h4 := h.bf
  have h5 := h.ct
  rw [el] at h1 h2
  rw [eb] at h3 h4
  have n1 := List.nodup_append.mp h1
  have n3 := List.nodup_append.mp h3
  have f1 : ∀ l ∈ t.hereLab, pr l = none := fun l hl => h2 l (List.mem_append_left _ hl)
  have f2 : ∀ n ∈ t.hereBind, bd n = none := fun n hn => h4 n (List.mem_append_left _ hn)
  refine ⟨fun p hp => ?_, by rw [em, labss_append]; exact n1.2.1, fun l hl => ?_, by rw [em, bindss_append]; exact n3.2.1, fun n hn => ?_, fun x => ?_⟩
  · rcases List.mem_append.mp hp with hp | hp
    · obtain ⟨k, hk, rfl⟩ := List.mem_map.mp hp
      exact (h.ok _ (.head _)).kid f1 f2 hd hk
    · exact (h.ok p (.tail _ hp)).keep f1 f2
  · rw [em, labss_append] at hl
    exact prU_none (fun hm => n1.2.2 l hm l hl rfl) (h2 l (List.mem_append_right _ hl))
  · rw [em, bindss_append] at hn
    exact bdU_none (fun hm => n3.2.2 n hm n hn rfl) (h4 n (List.mem_append_right _ hn))
  · rw [em, setns_append, List.count_append]
    have h6 := h5 x
    rw [List.map_cons, setns, List.count_append, setn_eq t, List.count_append] at h6
    have e : cnU cn t x = cn x + (t.hereSet).count x := by
      cases t with
      | setl n v =>
        show (if x = n then cn n + 1 else cn x) = cn x + [n].count x
        by_cases hx : x = n
        · subst hx; simp
        · rw [if_neg hx, List.count_eq_zero_of_not_mem (by simpa using hx)]; rfl
      | _ => rfl
    rw [e]; omega
theorem FInv.meets {root t : T} {lab : Int} {bd pr : Int → Option Int} {cn : Int → Nat} {ws : List (T × Int)} (h : FInv root bd pr cn ((t, lab) :: ws)) : ∀ n, (t = .loc n ∨ ∃ v, t = .setl n v) → ∃ b k, bd n = some b ∧ Chain pr b lab k ∧ k ≤ 60 := by
  intro n hn
  obtain ⟨vis, hs, hv⟩ := h.ok _ (.head _)
  rcases hn with e | ⟨v, e⟩
  · have e' : t = .loc n := e
    subst e'
    obtain ⟨b, k, e1, e2, e3⟩ := hv n hs
    exact ⟨b, k, e1, e2, by omega⟩
  · have e' : t = .setl n v := e
    subst e'
    obtain ⟨b, k, e1, e2, e3⟩ := hv n hs.1
    exact ⟨b, k, e1, e2, by omega⟩
theorem FInv.noFix {root t : T} {lab : Int} {bd pr : Int → Option Int} {cn : Int → Nat} {ws : List (T × Int)} (h : FInv root bd pr cn ((t, lab) :: ws)) : noFix t = true := by
  obtain ⟨vis, hs, _⟩ := h.ok _ (.head _)
  cases t <;> first | rfl | exact hs.elim
def LR (w : World) (P : Led) (v : Value) (p : T × Int) : Prop := ∃ T a tk e, v = .ref T ∧ (T, tupOf [.ref a, .int p.2 tk] e) ∈ P ∧ Nd w P a p.1
theorem LR.mono {w : World} (P P' : Led) (v : Value) (p : T × Int) (hs : ∀ p ∈ P, p ∈ P') : LR w P v p → LR w P' v p := fun ⟨T, a, tk, e, h1, h2, h3⟩ => ⟨T, a, tk, e, h1, hs _ h2, h3.mono hs⟩
structure Built (t : T) : Prop where
  sc : Sc [] t
  ln : (labs t).Nodup
  bn : (binds t).Nodup
  sz : t.size ≤ 1990
  dp : t.dep ≤ 50
section
variable {w : World} {c : Cx} {m : Str → Option Value} {own P : Led} {s : Shared} {E Q : Value → Shared → Prop} {cn : Str} {a : Addr} {ccd : Value} {cl : List (Str × Addr)}
theorem call0 {ns : List (Str × NameKind)} {mo : List (Str × Const)} {x : Str} {px pos : Pos} {fv : Value} (S : St w c m own P s) (g : goodNs ns = true) (e : nsIn (hd.heap_39 w.params) mainGlobals x = some (some fv)) (hkp : keepIn (hd.heap_39 w.params) fv = true) (hx : (x, NameKind.globalImplicit) ∈ ns)
    (h : wpAny (model PySem.Challenge.rw_pq1024_01.row.prog w) c.A (call fv []) Q E s) :
    wpAny (model PySem.Challenge.rw_pq1024_01.row.prog w) c.A (eval (.Call (.Name x px) [] [] pos) (envX cn (fnSc ns mo) c.L a ccd cl)) Q E s :=
  Call_ (ev_glob S g e hx (callWith_K0 S.kin hkp h))
end
theorem kind7 {t : T} (h : t.kind = 7) : ∃ l ps b, t = .lam l ps b := by cases t <;> first | exact ⟨_, _, _, rfl⟩ | cases h
theorem within_other {t : T} {lab : Int} (h : ¬ t.kind = 7) : within lab t = lab := by
  cases t <;> first | rfl | exact absurd rfl h

section
variable {w : World} {P : Led}
theorem facts_of {nl a : Addr} {e : Nat} {t : T} (hN : Nd w P a t) (hnl : (nl, listOf [.ref a].toArray e) ∈ P) (hb : Built t) :
    Pure w 20 P (call (.ref 404) [.ref nl]) fun P' r => ∃ F, r = .ref F ∧ FSet w P' F (fun x => (setn t).count x) := by
  intro c m own s Q E S hdp hu ret
  have X := S.X
  refine wpAny_call ?_
  fold_lay
  clear ret S
  intro c' s' gN hd' hu' S'
  dsimp only [List.map] at S'
  have d6 : c'.A.depth + 6 < recursionLimit := by omega
  have u8 : c'.A.units + 80 < cLine := by omega
  have d2 : c'.A.depth + 2 < recursionLimit := by omega
  have u2 : c'.A.units + 16 < cLine := by omega
  k_offL
  refine call0 (by assumption) (by assumption) (by k_subL) (by k_subL) (by kat_tups) ?_
  refine mk_facts (by assumption) (by omega) (by omega) ?_
  intro F fa cells P1 s1 S1 hs1 hF D0
  k_offL
  refine For_ (by assumption) ?_ (by k_dflt exact fun _ => rfl)
  k_offL
  have hnl1 := hs1 _ hnl
  have hN1 := hN.mono hs1
  refine forL (vals := [some (.ref nl), some (.ref F), none, none, none, none, none, none]) (St.pad 6 (vs := [some (.ref nl), some (.ref F)]) (by assumption)) gN hnl1 (fun i vals₁ own₁ P₁ => ∃ v1 v2 v3 v4 v5 v6 l, vals₁ = [some (.ref nl), some (.ref F), v1, v2, v3, v4, v5, v6] ∧ Dcs w own₁ l ∧ (∀ p ∈ P1, p ∈ P₁) ∧ (i = 0 → FS fa (fun _ => none) (fun _ => none) (fun _ => 0) 0 l) ∧ (i = 1 → ∃ bd pr N, FS fa bd pr (fun x => (setn t).count x) N l))
    ⟨_, _, _, _, _, _, _, rfl, by rw [List.append_nil]; exact D0, fun _ h => h, fun _ => ⟨_, _, _, _, _, _, _, _, _, _, [], rfl, ⟨fun x => ⟨0, fun _ => rfl, fun h => absurd rfl h⟩, fun x => ⟨0, fun _ => rfl, fun h => absurd rfl h⟩, fun x => ⟨0, fun _ => rfl, fun h => absurd rfl h⟩, fun x => ⟨fun _ => rfl, fun h => absurd rfl h⟩, (by intro x b h; cases h), (by intro x b h; cases h), by decide, (by intro p h; cases h)⟩⟩, fun h => by cases h⟩ ?_ ?_
  · rintro i v vals₁ own₁ P₁ P₁' W s₁ hi hv ⟨v1, v2, v3, v4, v5, v6, l, rfl, D1, hP1, hf0, _⟩ S hs
    obtain rfl : i = 0 := by simpa using hi
    have hf0 := hf0 rfl
    cases hv
    keq_hits
    intro s2 S2
    have hF2 := hF.mono fun p hp => hs _ (hP1 p hp)
    have hN2 := hN1.mono fun p hp => hs _ (hP1 p hp)
    have flag : OwnFlag := ⟨trivial⟩
    k_offL
    clear flag
    rename_i T0 _ _ Wt _ _ _ _
    have hT0sub : ∀ p ∈ P₁', p ∈ (T0, tupOf [.ref a, .int (-1) 620] 0) :: P₁' := fun p hp => List.mem_cons_of_mem _ hp
    refine cutN gN (fun ns f s' => f = .next ∧ ∃ v3 v4 v5 v6 cells l bd pr N wv ew P2, (∀ p ∈ P₁', p ∈ P2) ∧ St w c' (asg ns [some (.ref nl), some (.ref F), some (.ref a), some (.ref Wt), v3, v4, v5, v6]) ((Wt, listOf (wv : List Value).toArray ew) :: (cells ++ W)) P2 s' ∧ Dcs w cells l ∧ FS fa bd pr (fun x => (setn t).count x) N l) ?_ ?_
    · refine whileR (fun k s => ∃ ws wv ew v3 v4 v5 v6 cells l bd pr cn N P2, k = sizes (ws.map (·.1)) ∧ (∀ p ∈ P₁', p ∈ P2) ∧ St w c' (asg _ [some (.ref nl), some (.ref F), some (.ref a), some (.ref Wt), v3, v4, v5, v6]) ((Wt, listOf (wv : List Value).toArray ew) :: (cells ++ W)) P2 s ∧ Dcs w cells l ∧ FS fa bd pr cn N l ∧ FInv t bd pr cn ws ∧
        All2 (LR w P2) wv ws.reverse ∧ N + 71 * sizes (ws.map (·.1)) ≤ 150000 ∧ (∀ p ∈ ws, p.1.size ≤ 1990 ∧ p.1.dep ≤ 50)) ?_ (sizes [t]) _
        ⟨[(t, -1)], [.ref T0], 0, v3, v4, v5, v6, own₁, l, _, _, _, 0, (T0, tupOf [.ref a, .int (-1) 620] 0) :: P₁', rfl, hT0sub, by assumption, D1, hf0,
          ⟨fun p hp => by rw [List.mem_singleton.mp hp]; exact ⟨[], hb.sc, fun n h => nomatch h⟩, by simpa [labss] using hb.ln, fun _ _ => rfl, by simpa [bindss] using hb.bn, fun _ _ => rfl, fun x => by simp [setns]⟩,
          .cons ⟨T0, a, 620, 0, rfl, .head _, hN2.mono hT0sub⟩ .nil, by have := hb.sz; simp [sizes]; omega, fun p hp => by rw [List.mem_singleton.mp hp]; exact ⟨hb.sz, hb.dp⟩⟩
      clear D1 hf0 S S2
      rintro k s3 ⟨ws, wv, ew, v3, v4, v5, v6, cells, l, bd, pr, cn, N, P2, rfl, hP2, S3, D1, hf, hinv, hwv, hpot, hbnd⟩
      have hwl := hwv.length
      have hls := len_sizes (ws.map (·.1))
      rw [List.length_map] at hls
      rw [List.length_reverse] at hwl
      k_offL
      refine len_O (by assumption) (by k_mem) (by omega) ?_
      intro s4 tk4 S4
      k_offL
      refine ifB (fun hb2 => ?_) (fun hb2 => ?_)
      rotate_left
      · have hws : ws = [] := List.length_eq_zero_iff.mp (by have := of_decide_eq_false hb2; omega)
        subst hws
        have hcn : cn = fun x => (setn t).count x := by
          funext x
          have := hinv.ct x
          simpa [setns] using this
        subst hcn
        k_offL
        exact ⟨rfl, _, _, _, _, cells, l, bd, pr, N, _, _, P2, hP2, by assumption, D1, hf⟩
      cases ws with
      | nil => exact absurd (of_decide_eq_true hb2) (by simp [hwl])
      | cons p ws =>
      obtain ⟨t', lab⟩ := p
      rw [List.reverse_cons] at hwv
      obtain ⟨wv, v, rfl, hwv1, T1, b, tk1, eT, rfl, hT1, hNb⟩ := hwv.snoc_inv
      have hbt := hbnd (t', lab) (.head _)
      rw [List.length_append, List.length_singleton] at hwl
      rw [List.length_cons] at hwl hls
      dsimp only at hT1 hNb hbt
      have hpot' : N + 71 * (t'.size + sizes (ws.map (·.1))) ≤ 150000 := hpot
      k_clsL
      refine Assign_Tuple ?_ (by k_dflt rfl) (by k_dflt rfl)
      k_offL
      refine popL (by assumption) (fits_le (by rw [List.length_append, List.length_singleton, hwl]; omega)) ?_
      intro s5 S5
      refine asgF_pair (a := .ref b) (b := .int lab tk1) S5 gN ⟨_, S5.inP hT1, rfl, _, rfl⟩ ?_
      keq_hits
      keq_hits
      intro s6 S6
      clear S3 S4 S5
      k_offL
      have S7 := S6.perm (own' := cells ++ ((Wt, listOf wv.toArray (ew + 1)) :: W)) List.perm_middle.symm
      refine note_node (hF2.mono hP2) hNb hinv.noFix (by omega) D1 S7 hf hinv.meets (by omega) d6 u8 ?_
      intro cells2 l2 P3 s8 D2 hf2 S8 hs8
      have S9 := S8.perm (own' := (Wt, listOf wv.toArray (ew + 1)) :: (cells2 ++ W)) List.perm_middle
      clear S6 S7 S8 D1 hf
      have hN3 := hNb.mono hs8
      have hwv3 := hwv1.mono fun v p h => LR.mono _ _ v p hs8 h
      iterate 2 k_clsL
      refine cutE S9 (fun m' v s' => ∃ tk, v = .int (within lab t') tk ∧ St w c' m' ((Wt, listOf wv.toArray (ew + 1)) :: (cells2 ++ W)) P3 s') ?_ ?_
      · k_offL
        refine ifB (fun hk => ?_) (fun hk => ?_)
        · obtain ⟨l7, ps7, b7, rfl⟩ := kind7 (eq_of_beq hk)
          k_offL
          exact ⟨_, rfl, by assumption⟩
        · k_offL
          exact ⟨tk1, by rw [within_other (by simpa using hk)], by assumption⟩
      rintro v s10 ⟨tkw, rfl, S10⟩
      clear S9
      k_offL
      refine For_ (by assumption) ?_ (by k_dflt exact fun _ => rfl)
      k_offL
      refine parts_m (by assumption) hN3 (by k_places) (by omega) d2 u2 ?_
      intro lp pv ep P4 s11 S11 hs11 hlp hpv
      have hpl := hpv.length
      have hkl := len_kids t'
      k_offL
      refine kba_turn (value' := PySem.Expr.Name (PySem.Str.ofString "_") ⟨0, 0, 0, 0⟩) (fun _ => rfl) ?_
      refine slice_rev (by assumption) (St.isListP (by assumption) (by k_mem)) (by omega) ?_ (by k_dflt rfl) (by k_dflt exact fun _ => rfl)
      intro Dr s12 S12
      have hrev := (All2.ofNds' hpv).reverse
      have hwv4 := hwv3.mono fun v p h => LR.mono _ _ v p (fun p hp => List.mem_cons_of_mem (Dr, listOf pv.reverse.toArray 0) (hs11 _ hp)) h
      refine forL S12 gN (.head _) (fun i vals₁ own₁ P₁ => ∃ wv2 e2 u6, vals₁ = [some (.ref nl), some (.ref F), some (.ref a), some (.ref Wt), some (.ref b), some (.int lab tk1), some (.int (within lab t') tkw), u6] ∧ own₁ = (Wt, listOf (wv2 : List Value).toArray e2) :: (cells2 ++ W) ∧ (∀ p ∈ P4, p ∈ P₁) ∧ All2 (LR w P₁) wv2 (ws.reverse ++ (t'.kids.reverse.take i).map (fun k => (k, within lab t'))))
        ⟨_, _, _, rfl, rfl, fun p hp => .tail _ hp, by rw [List.take_zero, List.map_nil, List.append_nil]; exact hwv4⟩ ?_ ?_
      · rintro i v vals₁ own₁ P₁ P₁' W s₁ hi hv ⟨wv2, e2, u6, rfl, rfl, hP4, hw2⟩ S hs2
        obtain ⟨k, hk, xk, rfl, hNk⟩ := hrev.get hv
        have hw2l := hw2.length
        rw [List.length_reverse] at hi
        keq_hits
        intro s13 S13
        k_offL
        rename_i T3 _ _
        refine app (by assumption) (fits_le (by rw [hw2l]; simp; omega)) ?_
        intro s14 S14
        k_offL
        refine ⟨_, _ :: (cells2 ++ _), _, S14, fun p hp => .tail _ hp, _, _, _, rfl, rfl, fun p hp => .tail _ (hs2 _ (hP4 _ hp)), ?_⟩
        rw [List.take_add_one, hk, List.map_append, ← List.append_assoc]
        exact (hw2.mono fun v p h => LR.mono _ _ v p (fun p hp => .tail _ (hs2 _ hp)) h).snoc (show LR w _ (.ref T3) (k, within lab t') from ⟨T3, xk, tkw, 0, rfl, .head _, hNk.mono fun p hp => .tail _ (hs2 _ (hP4 _ hp))⟩)
      · rintro vals' own' P' s13 S13 ⟨wv2, e2, u6, rfl, rfl, hP4, hw2⟩
        have hlr : pv.reverse.length = t'.kids.reverse.length := by rw [List.length_reverse, List.length_reverse, hpl]
        rw [hlr, List.take_length] at hw2
        have hse := size_eq t'
        have em : (t'.kids.map (fun k => (k, within lab t')) ++ ws).map (·.1) = t'.kids ++ ws.map (·.1) := by
          rw [List.map_append, List.map_map]
          congr 1
          exact List.map_id t'.kids
        dsimp only
        k_offL
        refine ⟨sizes ((t'.kids.map (fun k => (k, within lab t')) ++ ws).map (·.1)), by rw [em, sizes_append]; show _ < t'.size + sizes (ws.map (·.1)); omega, t'.kids.map (fun k => (k, within lab t')) ++ ws, wv2, e2, _, _, _, _, cells2, l2, _, _, _, _, P', rfl, fun p hp => hP4 _ (hs11 _ (hs8 _ (hP2 _ hp))), by assumption, D2, hf2, hinv.step (by omega), ?_, ?_, ?_⟩
        · rw [List.reverse_append, ← List.map_reverse]; exact hw2
        · rw [em, sizes_append]; omega
        · intro p hp
          rcases List.mem_append.mp hp with hp | hp
          · obtain ⟨k, hk, rfl⟩ := List.mem_map.mp hp
            have h1 := size_kid hk
            have h2 := dep_kid hk
            exact ⟨by dsimp only; omega, by dsimp only; omega⟩
          · exact hbnd p (.tail _ hp)
    · rintro f s3 ⟨rfl, v3, v4, v5, v6, cells, l, bd, pr, N, wv, ew, P2, hP2, S3, D1, hf⟩
      dsimp only
      k_offL
      exact ⟨_, cells, P2, S3.drop, hP2, _, _, _, _, _, _, l, rfl, D1, fun p hp => hP2 _ (hs _ (hP1 _ hp)), (fun h => by cases h), fun _ => ⟨bd, pr, N, hf⟩⟩
  · rintro vals' own' P' s2 S2 ⟨v1, v2, v3, v4, v5, v6, l, rfl, D1, hP1, _, hf1⟩
    obtain ⟨bd, pr, N, kSg, kRg, kNr, kLt, kPr, kCt, kBd, kCl, kSt, kRd, inn, rfl, hK⟩ := hf1 rfl
    dsimp only
    k_offL
    obtain ⟨o, ho, hd, _⟩ := D1.at (i := 8) rfl
    have e := set_split (b := (fa.st, o)) ho
    have S3 := S2
    rw [e.1] at S3
    have S4 := (S3.perm List.perm_middle).settle
    have hF3 := hF.mono fun p hp => List.mem_cons_of_mem (fa.st, o) (hP1 p hp)
    obtain ⟨dF, t0, t1, t2, t3, t4, t5, t6, t7, t8, t9, hF1, hF2⟩ := hF3
    exact ⟨_, [], _, _, S4, fun p hp => .tail _ (hP1 _ (hs1 _ hp)), (by rfl), F, rfl, dF, _, _, fa.st, o, kSt, hF1, hF2, rfl, .head _, hd, fun x hx => (hK.st x).2 hx⟩
end
end Mine
end
section
namespace Mine
section
variable {w : World} {c : Cx} {m : Str → Option Value} {own P : Led} {s : Shared} {E Q : Value → Shared → Prop}
theorem comp_evalS {target elt iter : Expr} {ifs : List Expr} {scope : Scope} {cl : List (Str × Addr)} {pos : Pos} {env : Env} (_S : St w c m own P s)
    (hifs : ifs.length ≤ 1) (hclos : closureFor scope env = pure cl) (hcell : ∀ y ∈ scope.names, y.2 ≠ .cell) (hkind : scope.kind = .function) (hnames : ∀ y ∈ scope.names, y.2 = .local → scope.names.lookup y.1 = some .local) (hs : ∀ x, foldedSetIterable iter env x = pure x)
    (h : wpAny (model PySem.Challenge.rw_pq1024_01.row.prog w) c.A (eval iter env) (fun xv s₁ => wpAny (model PySem.Challenge.rw_pq1024_01.row.prog w) c.A (pyIter xv) (CompAt w c m target elt ifs scope cl env (fun own' P' ys D => ∀ s', St w c m own' ((D, LCg.lst ys) :: P') s' → Q (.ref D) s')) E s₁) E s) :
    wpAny (model PySem.Challenge.rw_pq1024_01.row.prog w) c.A (eval (.ListComp elt [⟨target, iter, ifs, 0⟩] scope pos) env) Q E s := comp_eval hifs hclos hcell hkind hnames hs h
theorem intOfB {b : Bool} (S : St w c m own P s) (h : ∀ s' tk, St w c m own P s' → Q (.int (if b then 1 else 0) tk) s') : wpAny (model PySem.Challenge.rw_pq1024_01.row.prog w) c.A (call (.type "int") [.bool b]) Q E s := call_int_bool (h _ _ (S.tok _))
theorem sumP {l : Addr} {vs : List Value} {e : Nat} {ns : List Int} (S : St w c m own P s) (hl : (l, listOf vs.toArray e) ∈ P) (hi : IntsAre vs ns) (h : ∀ s' tk, St w c m own P s' → Q (.int ns.sum tk) s') : wpAny (model PySem.Challenge.rw_pq1024_01.row.prog w) c.A (call (.builtin "sum") [.ref l]) Q E s :=
  PyProof.Rows.LSm.sum_ints S.F S.N S.hh (S.isListP hl) hi fun h' tk t' F' N' => h _ _ (S.same F' N' S.ap S.nd)
/-- two told things compared -/
theorem eqDat {u v : Value} {d e : Dat} {P₁ P₂ : Led} (n k : Nat) (S : St w c m own P s) (hu : DatIn P₁ u d) (h1 : ∀ p ∈ P₁, p ∈ P) (hv : DatIn P₂ v e) (h2 : ∀ p ∈ P₂, p ∈ P) (hd : kqdOk n d = true) (he : kqdOk k e = true) (hr : c.A.units + n < cLine) (h : ∀ b, (b = true ↔ d = e) → Q (.bool b) s) :
    wpAny (model PySem.Challenge.rw_pq1024_01.row.prog w) c.A (compareOp .Eq u v) Q E s := by
  obtain ⟨as, ra⟩ := kqd_in S.N n (hu.mono fun p hp => List.mem_append_right own (h1 p hp)) hd
  obtain ⟨bs, rb⟩ := kqd_in S.N k (hv.mono fun p hp => List.mem_append_right own (h2 p hp)) he
  have la := kqd_lay n d hd
  have lb := kqd_lay k e he
  refine PySem.SeqAt.compareEq_reads ra rb la.1 lb.1 (Nat.lt_of_le_of_lt (Nat.add_le_add_left (Nat.le_trans (Nat.min_le_left _ _) la.2) _) hr) ?_
  exact h _ (kqd_eqv n d e k hd he)
theorem neDat {u v : Value} {d e : Dat} {P₁ P₂ : Led} (n k : Nat) (S : St w c m own P s) (hu : DatIn P₁ u d) (h1 : ∀ p ∈ P₁, p ∈ P) (hv : DatIn P₂ v e) (h2 : ∀ p ∈ P₂, p ∈ P) (hd : kqdOk n d = true) (he : kqdOk k e = true) (hr : c.A.units + n < cLine) (h : ∀ b, (b = true ↔ d = e) → Q (.bool (!b)) s) :
    wpAny (model PySem.Challenge.rw_pq1024_01.row.prog w) c.A (compareOp .NotEq u v) Q E s := by
  obtain ⟨as, ra⟩ := kqd_in S.N n (hu.mono fun p hp => List.mem_append_right own (h1 p hp)) hd
  obtain ⟨bs, rb⟩ := kqd_in S.N k (hv.mono fun p hp => List.mem_append_right own (h2 p hp)) he
  have la := kqd_lay n d hd
  have lb := kqd_lay k e he
  refine PySem.SeqAt.compareNe_reads ra rb la.1 lb.1 (Nat.lt_of_le_of_lt (Nat.add_le_add_left (Nat.le_trans (Nat.min_le_left _ _) la.2) _) hr) ?_
  exact h _ (kqd_eqv n d e k hd he)
end
theorem asg_lc {A B : Str} {kA kB : NameKind} {x : Value} {r : List (Str × NameKind)} (h : goodNs ((A, kA) :: (B, kB) :: r) = true) :
    (fun z => if z = A then some x else none) = asg ((A, kA) :: (B, kB) :: r) [some x, none] := by
  funext z
  simp only [asg, asg_nil]
  by_cases h1 : z = A
  · simp [h1]
  · simp [h1]
theorem tell_in {P : Led} {v : Value} {t : T} (h : DatIn P v t.tell) : ∃ b e kt vo o eo k ek kv, v = .ref b ∧ (b, tupOf [.int t.kind kt, .ref o, .ref k] e) ∈ P ∧ (o, tupOf vo eo) ∈ P ∧ DatAll P vo t.own ∧ (k, tupOf kv ek) ∈ P ∧ DatAll P kv (tells t.kids) := by
  rw [tell_eq] at h
  cases h with
  | tuple hm ha =>
  cases ha with
  | cons h1 ha =>
  cases ha with
  | cons h2 ha =>
  cases ha with
  | cons h3 ha =>
  cases ha
  cases h1
  cases h2 with
  | tuple m2 a2 =>
  cases h3 with
  | tuple m3 a3 =>
  exact ⟨_, _, _, _, _, _, _, _, _, rfl, hm, m2, a2, m3, a3⟩
theorem dall_len {P : Led} : ∀ {vs : List Value} {ds : List Dat}, DatAll P vs ds → vs.length = ds.length
  | _, _, .nil => rfl
  | _, _, .cons _ r => by rw [List.length_cons, List.length_cons, dall_len r]
theorem dall_get {P : Led} : ∀ {vs : List Value} {ds : List Dat} {i : Nat} {v : Value}, DatAll P vs ds → vs[i]? = some v → ∃ d, ds[i]? = some d ∧ DatIn P v d
  | _, _, 0, _, .cons h _, e => by cases e; exact ⟨_, rfl, h⟩
  | _, _, i + 1, _, .cons _ r, e => dall_get (i := i) r e
theorem tells_get {ts : List T} {i : Nat} {d : Dat} (h : (tells ts)[i]? = some d) : ∃ t, ts[i]? = some t ∧ d = t.tell := by
  rw [tells_map, List.getElem?_map] at h
  cases ht : ts[i]? with
  | none => rw [ht] at h; cases h
  | some t => rw [ht] at h; cases h; exact ⟨t, rfl, rfl⟩
theorem own_one {t : T} {n : Int} (h : t.kind = 3) : (Dat.tuple t.own = Dat.tuple [.int n]) ↔ t.hereSet = [n] := by
  cases t <;> first | (simp [T.own, T.hereSet]; done) | cases h
theorem hereSet_ne {t : T} (h : ¬ t.kind = 3) : t.hereSet = [] := by
  cases t <;> first | rfl | exact absurd rfl h
theorem setns_sum (n : Int) : ∀ l : List T, (((setns l).count n : Nat) : Int) = (l.map fun t => (((setn t).count n : Nat) : Int)).sum
  | [] => rfl
  | t :: r => by rw [setns, List.count_append, List.map_cons, List.sum_cons, ← setns_sum n r]; exact Int.natCast_add _ _
theorem kqd_int (n : Nat) (i : Int) : kqdOk n (.int i) = true := by cases n <;> rfl
theorem kqd_ints (n : Nat) (ns : List Int) : (dints ns).all (kqdOk n) = true := by
  rw [List.all_eq_true]
  intro d hd
  obtain ⟨i, _, rfl⟩ := List.mem_map.mp hd
  exact kqd_int n i
theorem kqd_tup (n : Nat) (ds : List Dat) : kqdOk (n + 1) (.tuple ds) = ds.all (kqdOk n) := rfl
theorem fin8_ok (i : Fin 8) : PyData.strOk (Str.ofString (toString (i.val : Int))) = true := by revert i; decide +kernel
theorem kqd_strF (n : Nat) (i : Fin 8) : kqdOk n (.str (Str.ofString (toString (i.val : Int)))) = true := by cases n <;> exact fin8_ok i
theorem kqd_late (n : Nat) : kqdOk n (.str (Str.ofString "late")) = true := by cases n <;> (show PyData.strOk _ = true; decide +kernel)
theorem kqd_ownL (t : T) (n : Nat) : t.own.all (kqdOk (n + 1)) = true := by
  cases t with
  | cint i => simp only [T.own, List.all_cons, List.all_nil, kqd_strF, Bool.and_true]
  | cun => simp only [T.own, List.all_cons, List.all_nil, kqd_late, Bool.and_true]
  | _ => simp only [T.own, List.all_cons, List.all_nil, kqd_int, kqd_tup, kqd_ints, Bool.and_true]
theorem kqd_tell (t : T) (n : Nat) (h : 2 * t.dep ≤ n) : kqdOk (n + 2) t.tell = true := by
  have hd := dep_eq t
  obtain ⟨n, rfl⟩ : ∃ k, n = k + 2 := ⟨n - 2, by omega⟩
  rw [tell_eq, kqd_tup, List.all_cons, List.all_cons, List.all_cons, List.all_nil, kqd_int, kqd_tup, kqd_ownL t (n + 1), kqd_tup]
  have hk : (tells t.kids).all (kqdOk (n + 2)) = true := by
    rw [List.all_eq_true, tells_map]
    intro d hm
    obtain ⟨k, hk, rfl⟩ := List.mem_map.mp hm
    have := dep_kid hk
    exact kqd_tell k n (by omega)
  rw [hk]; rfl
termination_by t.size
decreasing_by exact size_kid hk
local macro_rules | `(tactic| k_mem) => `(tactic| with_reducible first | exact List.mem_cons_self | assumption | (refine List.mem_cons_of_mem _ ?_; k_mem))
local macro_rules | `(tactic| k_places) => `(tactic| with_reducible first | exact fun _ h => h | assumption | (intro p hp; k_mem))
local macro_rules | `(tactic| kat_tups) => `(tactic| with_reducible first | exact List.mem_cons_self | (refine List.mem_cons_of_mem _ ?_; kat_tups))
local macro_rules | `(tactic| keq_rows) => `(tactic| with_reducible first | refine LocQ.here ?_ | (refine LocQ.there ?_; keq_rows))
local macro_rules | `(tactic| keq_hits) => `(tactic| with_reducible first | refine SetQ.here ?_ | refine SetQ.hereN ?_ | (refine SetQ.there ?_; keq_hits) | (refine SetQ.thereN ?_; keq_hits))
local macro_rules | `(tactic| fold_lay) => `(tactic| (refine enter (K := hd.heap_39 _) rfl (by assumption) (by k_is) (by k_is) (by omega) (by exact BindsTo.of_eq rfl) (by exact rfl) (by kernel_rfl) ?_ (by assumption)))
local macro_rules | `(tactic| k_allIn) => `(tactic| with_reducible first | exact sl0 | exact sl1 | exact sl2 | exact sl3 | exact sl4)
local macro_rules | `(tactic| k_ownIn) => `(tactic| with_reducible first | exact tl0 | exact tl1 | exact tl2 | exact tl3 | exact Nat.le_trans (Nat.le_of_eq (IntsAre.length (by assumption))) (by assumption))
local macro_rules | `(tactic| k_subL) => `(tactic| with_reducible first | exact g_CONST _ | exact g_LOCAL _ | exact g_GLOBAL _ | exact g_SET_LOCAL _ | exact g_SET_GLOBAL _ | exact g_DEFINE _ | exact g_LAMBDA _ | exact g_CALL _ | exact g_SEQ _ | exact g_PRIM _ | exact g_FIX _ | exact g_TOP _ | exact g_UNASSIGNED _ | exact g_Const _ | exact g_Local _ | exact g_Global _ | exact g_SetLocal _ | exact g_Lambda _ | exact g_Call _ | exact g_Seq _ | exact g_Fix _ | exact g_are_same_list _ | exact g_rebuilt _ | exact g_let_node _ | exact g_is_let _ | exact g_seq_of _ | exact g_Facts _ | exact g_count_in _ | exact g_note_node _ | exact g_facts_of _ | exact g_Pair _ | exact g_is_unassigned _ | exact g_begun_late _ | exact g_Fixing _ | exact g_fixed _ | exact g_law_draw _ | exact g_law_deck_of _ | exact g_law_one _ | exact g_law_new _ | exact g_law_told _ | exact g_law_value_of _ | exact g_law_late _ | exact g_law_times_set _ | exact g_law_due_of _ | exact kp_Const _ | exact kp_Local _ | exact kp_Global _ | exact kp_SetLocal _ | exact kp_Lambda _ | exact kp_Call _ | exact kp_Seq _ | exact kp_Fix _ | exact kp_are_same_list _ | exact kp_rebuilt _ | exact kp_let_node _ | exact kp_is_let _ | exact kp_seq_of _ | exact kp_Facts _ | exact kp_count_in _ | exact kp_note_node _ | exact kp_facts_of _ | exact kp_Pair _ | exact kp_is_unassigned _ | exact kp_begun_late _ | exact kp_Fixing _ | exact kp_fixed _ | exact kp_law_draw _ | exact kp_law_deck_of _ | exact kp_law_one _ | exact kp_law_new _ | exact kp_law_told _ | exact kp_law_value_of _ | exact kp_law_late _ | exact kp_law_times_set _ | exact kp_law_due_of _ | exact gn_len _ | exact gn_range _ | exact gn_tuple _ | exact gn_isinstance _ | exact gn_int _ | exact gn_bool _ | exact gn_repr _ | exact gn_list _ | exact gn_zip _ | exact gn_abs _ | exact gn_sum _ | exact bt_len | exact bt_isinstance | exact bt_repr | exact bt_abs | exact bt_sum | exact bt_ne_len | exact ne_isinstance | exact ne_repr | exact bt_ne_abs | exact bt_ne_sum | exact bt_ne_range | exact bt_ne_tuple | exact bt_ne_list | exact bt_ne_zip | exact ne_int | exact bt_range | exact bt_tuple | exact bt_list | exact bt_zip | exact bt_int)
local macro_rules | `(tactic| k_clsL) => `(tactic| with_reducible first
  | ((show wpAny _ _ (eval (Expr.Name _ _) _) _ _ _); first
    | (refine ev_loc (by assumption) (by assumption) ?_; keq_rows)
    | refine ev_glob (by assumption) (by assumption) (by k_subL) (by kat_tups) ?_
    | refine ev_cell (by assumption) (by assumption) (by k_dflt rfl) (by k_mem) (by assumption) (by kat_tups) ?_
    | refine ev_bi (by assumption) (by assumption) (by k_subL) (by k_subL) (by k_subL) (by kat_tups) ?_)
  | ((show wpAny _ _ (eval (Expr.Constant _ _ _) _) _ _ _); first
    | (refine ev_int (by assumption) ?_; intro s' tk' S')
    | (refine ev_str (by assumption) ?_; intro s' tk' S')
    | refine PyProof.Rows.Constant_bool ?_)
  | ((show wpAny _ _ (eval (Expr.Attribute _ _ _) _) _ _ _); refine Attribute_any_ ?_ (by k_dflt rfl))
  | ((show wpAny _ _ (eval (Expr.Call (Expr.Name _ _) [_] [] _) _) _ _ _); first
    | refine call1 (by assumption) (by assumption) (by k_subL) (by k_subL) (by kat_tups) ?_ (by k_dflt rfl)
    | refine callB1 (by assumption) (by assumption) (by k_subL) (by k_subL) (by k_subL) (by kat_tups) ?_ (by k_dflt rfl)
    | refine callT (by assumption) (by assumption) (by k_subL) (by k_subL) (by k_subL) (by kat_tups) ?_ (by k_dflt rfl))
  | ((show wpAny _ _ (eval (Expr.Call (Expr.Name _ _) [_, _] [] _) _) _ _ _); first
    | refine call2 (by assumption) (by assumption) (by k_subL) (by k_subL) (by kat_tups) ?_ (by k_dflt rfl) (by k_dflt rfl)
    | refine callB2 (by assumption) (by assumption) (by k_subL) (by k_subL) (by k_subL) (by kat_tups) ?_ (by k_dflt rfl) (by k_dflt rfl)
    | refine callT2 (by assumption) (by assumption) (by k_subL) (by k_subL) (by k_subL) (by kat_tups) ?_ (by k_dflt rfl) (by k_dflt rfl))
  | ((show wpAny _ _ (eval (Expr.Call (Expr.Name _ _) [_, _, _] [] _) _) _ _ _); refine call3 (by assumption) (by assumption) (by k_subL) (by k_subL) (by kat_tups) ?_ (by k_dflt rfl) (by k_dflt rfl) (by k_dflt rfl))
  | ((show wpAny _ _ (eval (Expr.Call (Expr.Name _ _) [_, _, _, _] [] _) _) _ _ _); refine call4 (by assumption) (by assumption) (by k_subL) (by k_subL) (by kat_tups) ?_ (by k_dflt rfl) (by k_dflt rfl) (by k_dflt rfl) (by k_dflt rfl))
  | ((show wpAny _ _ (eval (Expr.Call (Expr.Attribute _ _ _) _ [] _) _) _ _ _); refine MethodCall_ ?_ (by k_dflt rfl))
  | ((show wpAny _ _ (eval (Expr.BoolOp _ _ _) _) _ _ _); first | refine BoolOp_and ?_ | refine BoolOp_or ?_ | refine BoolOp_one ?_)
  | ((show wpAny _ _ (eval (Expr.Compare _ _ _ _) _) _ _ _); refine wpAny_Compare1 ?_ (by k_dflt rfl))
  | ((show wpAny _ _ (eval (Expr.UnaryOp _ _ _) _) _ _ _); refine UnaryOp_ ?_)
  | ((show wpAny _ _ (eval (Expr.Subscript _ _ _) _) _ _ _); refine Subscript_ ?_)
  | ((show wpAny _ _ (eval (Expr.Tuple _ _ _) _) _ _ _); refine Tuple_ ?_)
  | ((show wpAny _ _ (eval (Expr.List _ _ ) _) _ _ _); refine List_ ?_)
  | ((show wpAny _ _ (eval (Expr.BinOp _ _ _ _) _) _ _ _); refine wpAny_BinOp ?_)
  | ((show wpAny _ _ (eval (Expr.Slice _ _ _ _) _) _ _ _); refine wpAny_Slice ?_)
  | ((show wpAny _ _ (eval (Expr.IfExp _ _ _ _) _) _ _ _); refine IfExp_ ?_)
  | ((show wpAny _ _ (exec _ _) _ _ _); first
    | refine wpAny_If ?_
    | refine wpAny_Assign_Name ?_ (by k_dflt rfl)
    | refine wpAny_Return_some ?_
    | refine wpAny_Assign_Subscript ?_ (by k_dflt rfl)
    | refine wpAny_Expr_any ?_ (by k_dflt rfl) (by k_dflt rfl)
    | refine plainObj_wpAny_Assign_Attribute ?_ (by k_dflt rfl))
  | ((show wpAny _ _ (compareOp _ _ _) _ _ _); first
    | refine eq_int_ff (by k_dflt rfl) ?_
    | refine eq_int_tt (by k_dflt rfl) ?_
    | refine in_tup_ff (by assumption) (by k_mem) (.cons _ _ (.cons _ _ .nil)) (by k_dflt rfl) ?_
    | refine in_tup_tt (by assumption) (by k_mem) (.cons _ _ (.cons _ _ .nil)) (by k_dflt rfl) ?_
    | refine wpAny_is_ref_self ?_
    | refine is_int_ref ?_
    | refine PySem.P.lt_int ?_
    | refine PySem.P.gt_int ?_
    | refine eq_int ?_
    | refine ne_int_ff (by k_dflt rfl) ?_
    | refine ne_int_tt (by k_dflt rfl) ?_)
  | ((show wpAny _ _ (getAttr _ _ _) _ _ _); first
    | (refine at_F_read (by assumption) (by assumption) (by k_places) ?_; intro s' S')
    | (refine at_F_set (by assumption) (by assumption) (by k_places) ?_; intro s' S')
    | (refine at_F_called (by assumption) (by assumption) (by k_places) ?_; intro s' S')
    | (refine at_F_bound (by assumption) (by assumption) (by k_places) ?_; intro s' S')
    | (refine at_F_caught (by assumption) (by assumption) (by k_places) ?_; intro s' S')
    | (refine at_F_parent (by assumption) (by assumption) (by k_places) ?_; intro s' S')
    | (refine at_F_lets (by assumption) (by assumption) (by k_places) ?_; intro s' S')
    | (refine at_F_inner (by assumption) (by assumption) (by k_places) ?_; intro s' S')
    | (refine at_F_read_globals (by assumption) (by assumption) (by k_places) ?_; intro s' S')
    | (refine at_F_set_globals (by assumption) (by assumption) (by k_places) ?_; intro s' S')
    | (refine at_kind (by assumption) (by assumption) (by k_places) (by first | assumption | exact rfl) ?_; intro s' tk' S')
    | (refine at_setl_value (by assumption) (by assumption) (by k_places) ?_; intro s' v' S' hv')
    | (refine at_call_operator (by assumption) (by assumption) (by k_places) ?_; intro s' v' S' hv')
    | (refine at_call_operands (by assumption) (by assumption) (by k_places) ?_; intro s' l' vs' e' S' hl' hvs')
    | (refine at_seq_items (by assumption) (by assumption) (by k_places) ?_; intro s' l' vs' e' S' hl' hvs')
    | (refine at_lam_body (by assumption) (by assumption) (by k_places) ?_; intro s' v' S' hv')
    | (refine at_setl_number (by assumption) (by assumption) (by k_places) ?_; intro s' tk' S')
    | (refine at_cint (by assumption) (by assumption) (by k_places) ?_; intro s' tk' S')
    | (refine at_cun (by assumption) (by assumption) (by k_places) ?_; intro s' S')
    | (refine at_loc (by assumption) (by assumption) (by k_places) ?_; intro s' tk' S')
    | (refine at_glob (by assumption) (by assumption) (by k_places) ?_; intro s' tk' S')
    | (refine at_lam_label (by assumption) (by assumption) (by k_places) ?_; intro s' tk' S')
    | (refine at_lam_rest (by assumption) (by assumption) (by k_places) ?_; intro s' tk' S')
    | (refine at_lam_params (by assumption) (by assumption) (by k_places) ?_; intro s' pl' vs' e' S' hp' hi')
    | (refine at_fix_numbers (by assumption) (by assumption) (by k_places) ?_; intro s' pl' vs' e' S' hp' hi'))
  | ((show wpAny _ _ (getMethod _ _ _) _ _ _); first
    | refine lmeth (by assumption) (by k_mem) PySem.F.slot_list_pop PySem.F.type_list_pop ?_
    | refine lmeth (by assumption) (by k_mem) PySem.F.slot_list_append PySem.F.type_list_append ?_
    | refine lmeth (by assumption) (by k_mem) PySem.F.slot_list_insert PySem.F.type_list_insert ?_)
  | ((show wpAny _ _ (callWith _ _ _ _ _) _ _ _); first
    | refine callWith_method1 ?_ (by k_dflt rfl) (by k_dflt rfl)
    | refine callWith_method0 ?_)
  | ((show wpAny _ _ (call _ _) _ _ _); first
    | (refine tuple_of (by assumption) (by k_mem) (by k_ownIn) ?_; intro D' s' S')
    | (refine isi_int (by assumption) (by k_mem) ?_; intro s' S')
    | (refine isi_un (by assumption) (by k_mem) ?_; intro s' S')
    | (refine isi_pair (by assumption) ?_; intro s' S')
    | (refine rp_int (by assumption) ?_; intro s' tk' S')
    | (refine intOfB (by assumption) ?_; intro s' tk' S'))
  | ((show wpAny _ _ (PySem.isTrue _ _ _) _ _ _); first
    | refine wpAny_isTrue_Compare1 ?_ (by k_dflt rfl)
    | refine isTrue_and ?_
    | refine isTrue_and_nil ?_
    | refine isTrue_or ?_
    | refine isTrue_or_nil ?_
    | refine isTrue_not ?_
    | refine isTrue_plain ?_ (by k_dflt rfl))
  | ((show wpAny _ _ (binaryOp _ _ _) _ _ _); first
    | (refine addS (by assumption) ?_; intro s' tk' S')
    | (refine subS (by assumption) ?_; intro s' tk' S'))
  | ((show wpAny _ _ (unaryOp _ _) _ _ _); refine negS (by assumption) ?_; intro s' tk' S')
  | ((show wpAny _ _ (subscriptTail _ _ _ _) _ _ _); first
    | refine tup_item (by assumption) (by k_mem) (by decide) (by decide) (by k_dflt rfl) ?_ (by k_dflt rfl)
    | refine own0 (by assumption) (by decide) (by decide) (by k_dflt rfl) ?_ (by k_dflt rfl))
  | ((show wpAny _ _ (PySem.setItem _ _ _) _ _ _); first
    | (refine set0 (by assumption) ?_; intro s' S')
    | (refine set1 (by assumption) ?_; intro s' S'))
  | ((show _ ∧ wpAny _ _ _ _ _ _); refine And.intro (St.kin (by assumption)) ?_)
  | ((show wpAny _ _ (PySem.evalPart _ _) _ _ _); first | refine evalPart_none_step ?_ | refine evalPart_some_step ?_)
  | refine wpAny_execs_cons ?_
  | refine sp1 ?_ (by k_dflt rfl)
  | refine sp0 ?_
  | refine wpAny_truthy_bool ?_
  | refine ite_ff ?_
  | refine ite_tt ?_
  | refine ite_dt (by k_dflt rfl) ?_
  | refine ite_df (by k_dflt rfl) ?_
  | (refine st_loc (by assumption) (by assumption) ?_; keq_hits; intro s' S')
  | (refine nl_flag (by assumption) (by assumption) ?_ (by k_allIn); intro l' s' S')
  | (refine nl (by assumption) ?_ (by k_allIn); intro l' s' S')
  | (refine nt (by assumption) ?_ (by k_allIn); intro l' s' S')
  | refine wpAny_execs_nil ?_
  )
local macro_rules | `(tactic| k_offL) => `(tactic| repeat k_clsL)

theorem times1 {w : World} {P : Led} (t : T) (v : Value) (n : Int) (u : Tok) (hv : DatIn P v t.tell) (hz : t.size ≤ 4000) (IH : ∀ d ∈ t.kids, ∀ v P u, DatIn P v d.tell → Pure w (2 * d.dep + 4) P (call (.ref 560) [v, .int n u]) fun P' r => ∃ tk, r = .int (((setn d).count n : Nat) : Int) tk) :
    Pure w (2 * t.dep + 4) P (call (.ref 560) [v, .int n u]) fun P' r => ∃ tk, r = .int (((setn t).count n : Nat) : Int) tk := by
  intro c m own s Q E S hdp hu ret
  have X := S.X
  obtain ⟨b, e, kt, vo, o, eo, k, ek, kv, rfl, hb, ho, hvo, hk, hkv⟩ := tell_in hv
  refine wpAny_call ?_
  refine enterK (K := hd.heap_39 _) (vals := [some (.ref b), none]) (clf := fun L' => [(Str.ofString "_law_number", L' + 1)]) (Out := fun cs P' r => cs = own ∧ ∃ tk, r = .int (((setn t).count n : Nat) : Int) tk) rfl S (by k_is) (by k_is) (by omega) (by exact BindsTo.of_eq rfl) (by kernel_rfl) (by decide +kernel) (by kernel_rfl) (by exact fun _ => rfl) ?a4 ?a5 ?a6
  case a4 =>
    intro L'
    dsimp only [List.map, List.zip, List.zipWith]
    rw [bindL_loc (by kernel_rfl), bindL_cell (by kernel_rfl), bindL_nil]
    exact asg_lc (by kernel_rfl)
  case a6 =>
    rintro r own' P' s' S' hc hs ⟨rfl, ho⟩
    exact ret r P' s' S' hs ho
  intro c' s' cc gN hd' hu' hcc S'
  obtain ⟨o1, rfl, hc1⟩ := hcc.one
  have hN : o1.data = .cell (some (.int n u)) := hc1.trans (by exact rfl)
  clear hc1 hcc ret S
  have e0 : t.size ≤ 1000000 := by omega
  have e3 : ∀ d ∈ t.kids, c'.A.depth + (2 * d.dep + 4) < recursionLimit := fun d hd => by have := dep_kid hd; omega
  have e4 : ∀ d ∈ t.kids, c'.A.units + 8 * (2 * d.dep + 4) < cLine := fun d hd => by have := dep_kid hd; omega
  have e5 : c'.A.units + 10 < cLine := by omega
  clear hdp hu hd' hu'
  have hkl : kv.length = t.kids.length := by rw [dall_len hkv, tells_map, List.length_map]
  have hkz := len_kids t
  dsimp only [List.cons_append, List.nil_append] at S'
  k_clsL
  k_clsL
  k_clsL
  k_clsL
  refine cutN gN (fun ns v s' => ∃ P1, v = .bool (decide (t.hereSet = [n])) ∧ St w c' (asg ns [some (.ref b), none]) own P1 s' ∧ (∀ p ∈ (c'.L + 1, o1) :: P, p ∈ P1)) ?_ ?_
  · k_offL
    refine ifB (fun hk3 => ?_) (fun hk3 => ?_)
    · have hk3' := eq_of_beq hk3
      k_offL
      refine eqDat (P₂ := _) 3 2 (by assumption) (.tuple ho hvo) (by k_places) (.tuple (.head _) (.cons (.int n u) .nil)) (fun _ h => h) (by rw [kqd_tup]; exact kqd_ownL t 1) (by rw [kqd_tup]; simp [kqd_int]) (by omega) ?_
      intro bb hbb
      rw [own_one hk3'] at hbb
      have : bb = decide (t.hereSet = [n]) := by
        rw [Bool.eq_iff_iff, hbb]; simp
      exact ⟨_, by rw [this], by assumption, fun p hp => .tail _ hp⟩
    · have hk3' : ¬ t.kind = 3 := by simpa using hk3
      refine ⟨_, ?_, by assumption, fun _ h => h⟩
      rw [hereSet_ne hk3']
      simp [hk3']
  rintro v s1 ⟨P1, rfl, S1, hP1⟩
  have hc1 := hP1 _ (.head _)
  have hb1 := hP1 _ (.tail _ hb)
  have hk1 := hP1 _ (.tail _ hk)
  k_offL
  refine comp_evalS (by assumption) (by decide) (by k_dflt rfl) (by decide) (by k_dflt rfl) (by decide) (by k_dflt exact fun _ => rfl) ?_
  k_offL
  refine compT (vs := kv) (by assumption) hk1 (by omega) rfl (by kernel_rfl) (fun i own₁ P₁ ys => own₁ = own ∧ (∀ p ∈ P1, p ∈ P₁) ∧ IntsAre ys ((t.kids.take i).map fun t => (((setn t).count n : Nat) : Int))) ⟨rfl, fun _ h => h, .nil⟩ ?_ ?_
  · rintro i own₁ P₁ P₁' tl C oC m₂ ys s₂ E' hi ⟨rfl, hP2, hys⟩ hG hC htl S hs
    obtain ⟨v, hv1⟩ : ∃ v, kv[i]? = some v := ⟨kv[i], by simp [hi]⟩
    obtain ⟨d, hd, hvd⟩ := dall_get hkv hv1
    obtain ⟨kt, hkt, rfl⟩ := tells_get hd
    rw [hv1] at hG
    have to2 : ∀ p ∈ P, p ∈ P₁' := fun p hp => hs _ (hP2 _ (hP1 _ (.tail _ hp)))
    show wpAny _ _ _ _ _ _
    refine ccall2 (x := Str.ofString "_law_times_set") S (g_law_times_set _) (kp_law_times_set _) ?_ rfl rfl (by kernel_rfl) (by k_dflt rfl) (by k_dflt rfl)
    refine cv_loc S (List.mem_append_right _ htl) hC hG ?_ rfl (by kernel_rfl)
    refine cv_cell S (by k_dflt rfl) (hs _ (hP2 _ hc1)) hN ?_ rfl (by kernel_rfl)
    refine ⟨S.kin, ?_⟩
    refine useP (IH kt (List.mem_of_getElem? hkt) v _ u (hvd.mono to2)) S (e3 _ (List.mem_of_getElem? hkt)) (e4 _ (List.mem_of_getElem? hkt)) ?_
    rintro r P3 s3 S3 hs3 ⟨tk, rfl⟩
    refine ⟨_, P3, S3, hs3, rfl, fun p hp => hs3 _ (hs _ (hP2 _ hp)), ?_⟩
    rw [List.take_add_one, hkt, List.map_append]
    exact hys.append (.cons _ _ .nil)
  rintro own' P2 ys D ⟨rfl, hP2, hys⟩ s2 S2
  rw [hkl, List.take_length] at hys
  k_offL
  refine sumP (by assumption) (.head _) hys ?_
  intro s3 tk3 S3
  k_offL
  have hval : (if decide (t.hereSet = [n]) = true then (1 : Int) else 0) + (t.kids.map fun t => (((setn t).count n : Nat) : Int)).sum = (((setn t).count n : Nat) : Int) := by
    rw [setn_eq t, List.count_append, Int.natCast_add, ← setns_sum]
    congr 1
    by_cases h3 : t.kind = 3
    · have h4 : ∃ m, t.hereSet = [m] := by cases t <;> first | exact ⟨_, rfl⟩ | cases h3
      obtain ⟨m0, h4⟩ := h4
      rw [h4]
      by_cases hm : m0 = n
      · subst hm; simp
      · have : ¬ [m0] = [n] := by simpa using hm
        rw [decide_eq_false this, List.count_eq_zero_of_not_mem (by simpa using fun e => hm e.symm)]; rfl
    · rw [hereSet_ne h3]; rfl
  exact ⟨_, _, [], _, by rw [List.append_nil]; assumption, fun p hp => .tail _ (hP2 _ (hP1 _ (.tail _ hp))), rfl, rfl, _, congrArg (fun z => Value.int z _) hval⟩
theorem times_set {w : World} {P : Led} (t : T) (v : Value) (n : Int) (u : Tok) (hv : DatIn P v t.tell) (hz : t.size ≤ 4000) : Pure w (2 * t.dep + 4) P (call (.ref 560) [v, .int n u]) fun P' r => ∃ tk, r = .int (((setn t).count n : Nat) : Int) tk :=
  times1 t v n u hv hz fun d hd v P u h => times_set d v n u h (by have := size_kid hd; omega)
termination_by t.size
decreasing_by exact size_kid hd
end Mine
end
section
namespace Mine
/-! ## zip over two tuples (the library has it over lists) -/
namespace Zt
variable {prog : Program} {w : World} {A : Around} {s : Shared}
open Builtin.SmallTypes in
theorem next_item {E : Value → Shared → Prop} {it t : Addr} {i : Nat} {items : Array Value} {x : Value} {Q : Value → Shared → Prop} (hit : s.heap.IsTupleIter it t i) (ht : s.heap.IsTuple t items) (hx : items[i]? = some x)
    (hQ : ∀ h', h'.IsTupleIter it t (i + 1) → Heap.SameBut it s.heap h' → Q x { s with heap := h' }) : wpAny (model prog w) A (nextOf (.ref it)) Q E s := by
  obtain ⟨o, ho, hc, hd⟩ := id hit
  obtain ⟨ol, hol, _, nl, hdl⟩ := ht
  unfold nextOf
  refine wpAny_bind (wpAny_callSpecial?_slot (name := Str.ofString "__next__") hit.typeIs F.slot_tuple_iterator_next (wpAny_call_entry F.slot_tuple_iterator_next hit.typeIs F.entry_tuple_iterator_next ?_ (F.args_tuple_iterator_next_1 _)))
  show wpAny _ _ (field (.ref it) 0 >>= _) _ _ s
  refine wpAny_bind (wpAny_field ho hd (x := .ref t) rfl ?_)
  show wpAny _ _ (if (Value.ref t == Value.none) = true then _ else _) _ _ s
  rw [if_neg (show ¬ ((Value.ref t == Value.none) = true) from Bool.false_ne_true)]
  show wpAny _ _ (field (.ref it) 1 >>= _) _ _ s
  refine wpAny_bind (wpAny_field ho hd (x := .int i 0) rfl ?_)
  show wpAny _ _ (seqItems? (.ref t) >>= _) _ _ s
  refine wpAny_bind (wpAny_seqItems hol hdl ?_)
  simp only [Int.toNat_natCast, hx]
  refine wpAny_bind (wpAny_setField ho hd (by simp) (wpAny_pure ⟨x, rfl, wpAny_pure (hQ _ ?_ (Heap.SameBut.update ..))⟩))
  exact ⟨_, Heap.get?_update_self _ ho (Obj.isFreed_of_fields (Obj.data_mapFields hd _)), (Obj.cls_mapFields ..).trans hc, by
    rw [Obj.data_mapFields hd]; simp [rawInt]⟩
open Builtin.SmallTypes in
theorem next_end {E : Value → Shared → Prop} {it t : Addr} {i : Nat} {items : Array Value} {Q : Value → Shared → Prop} (hh : A.handled = none) (hit : s.heap.IsTupleIter it t i) (ht : s.heap.IsTuple t items) (hx : items[i]? = none)
    (hE : ∀ h' e, Heap.ExtBut it s.heap h' → (∃ o, h'.get? e = some o ∧ o.cls = .type "StopIteration") → E (.ref e) { s with heap := h' }) : wpAny (model prog w) A (nextOf (.ref it)) Q E s := by
  obtain ⟨o, ho, hc, hd⟩ := id hit
  obtain ⟨ol, hol, _, nl, hdl⟩ := ht
  unfold nextOf
  refine wpAny_bind (wpAny_callSpecial?_slot (name := Str.ofString "__next__") hit.typeIs F.slot_tuple_iterator_next (wpAny_call_entry F.slot_tuple_iterator_next hit.typeIs F.entry_tuple_iterator_next ?_ (F.args_tuple_iterator_next_1 _)))
  show wpAny _ _ (field (.ref it) 0 >>= _) _ _ s
  refine wpAny_bind (wpAny_field ho hd (x := .ref t) rfl ?_)
  show wpAny _ _ (if (Value.ref t == Value.none) = true then _ else _) _ _ s
  rw [if_neg (show ¬ ((Value.ref t == Value.none) = true) from Bool.false_ne_true)]
  show wpAny _ _ (field (.ref it) 1 >>= _) _ _ s
  refine wpAny_bind (wpAny_field ho hd (x := .int i 0) rfl ?_)
  show wpAny _ _ (seqItems? (.ref t) >>= _) _ _ s
  refine wpAny_bind (wpAny_seqItems hol hdl ?_)
  simp only [Int.toNat_natCast, hx]
  refine wpAny_bind (wpAny_rule (wpAny_bind (wpAny_setField ho hd (by simp) ?_)))
  show wpAny _ _ (newExc (.type "StopIteration") [] >>= _) _ _ _
  refine wpAny_bind ?_
  simp only [newExc, newTuple]
  refine wpAny_bind (wpAny_newObj_type ?_ (by size_fits))
  refine wpAny_bind (m := firstArgMember _ _) (wpAny_of_eq (a := Value.none) (by first | rfl | (simp only [firstArgMember]; rfl)) ?_)
  refine wpAny_newObj_type ?_ (by size_fits)
  simp only [raiseNew]
  refine wpAny_bind (wpAny_handled ?_)
  first | rw [show A.in1.handled = none from hh] | rw [hh]
  refine wpAny_bind (wpAny_pure (wpAny_throw ?_))
  exact hE _ _ (((Heap.SameBut.update ..).extBut.push _).push _) ⟨_, Heap.get?_push_size _ rfl, rfl⟩
/-- where the zip's two iterators stand -/
structure At (h : Heap) (i1 i2 l1 l2 : Addr) (xs ys : Array Value) (k1 k2 : Nat) : Prop where
  a : h.IsTupleIter i1 l1 k1
  b : h.IsTupleIter i2 l2 k2
  la : h.IsTuple l1 xs
  lb : h.IsTuple l2 ys
theorem At.keep {h h' : Heap} {i1 i2 l1 l2 : Addr} {xs ys : Array Value} {k1 k2 : Nat} (x : At h i1 i2 l1 l2 xs ys k1 k2) {d : Addr} (hs : Heap.ExtBut d h h') (h1 : i1 ≠ d) (h2 : i2 ≠ d) (h3 : l1 ≠ d) (h4 : l2 ≠ d) : At h' i1 i2 l1 l2 xs ys k1 k2 :=
  ⟨x.a.at fun o e => hs _ o h1 e, x.b.at fun o e => hs _ o h2 e, x.la.at fun o e => hs _ o h3 e, x.lb.at fun o e => hs _ o h4 e⟩
theorem item {z TI TO i1 i2 l1 l2 : Addr} {k1 k2 : Nat} {xs ys : Array Value} {x y a b : Value} {Q : Option Value → Shared → Prop} {E : Value → Shared → Prop} (D : ZipApart z TI TO i1 i2 l1 l2)
    (hz : IsZip s.heap z TI TO .none) (hTI : IsPair s.heap TI (.ref i1) (.ref i2)) (hTO : IsPair s.heap TO a b) (hat : At s.heap i1 i2 l1 l2 xs ys k1 k2) (hx : xs[k1]? = some x) (hy : ys[k2]? = some y)
    (hQ : ∀ h', IsZip h' z TI TO (rawInt s.heap.objs.size) → IsPair h' TO x y → At h' i1 i2 l1 l2 xs ys (k1 + 1) (k2 + 1) → IsPair h' s.heap.objs.size x y →
      (∀ c o, c ≠ z → c ≠ TO → c ≠ i1 → c ≠ i2 → s.heap.get? c = some o → h'.get? c = some o) → Q (some (.ref s.heap.objs.size)) { s with heap := h' }) : wpAny (model prog w) A (pyNext (.ref z)) Q E s := by
  have hT : s.TypeIs (.ref z) "zip" := ⟨_, hz, rfl⟩
  unfold pyNext
  refine wpAny_bind (wpAny_attempt (wpAny_callSpecial?_slot (name := Str.ofString "__next__") hT F.slot_zip_next (wpAny_call_entry F.slot_zip_next hT F.entry_zip_next (wpAny_mono (Q := fun fin s' => ∃ v, fin = .done (.ret v) ∧ (v = .ref s.heap.objs.size ∧ Q (some v) s')) ?_ (fun fin s' ⟨v, e, e2, hq⟩ => ⟨v, e, wpAny_pure hq⟩) fun _ _ e => e) (F.args_zip_next_1 _))))
  show wpAny _ _ (field (.ref z) 2 >>= _) _ _ _
  refine wpAny_bind (wpAny_field hz rfl (x := .bool false) rfl ?_)
  show wpAny _ _ (field (.ref z) 3 >>= _) _ _ _
  refine wpAny_bind (wpAny_field hz rfl (x := .ref TI) rfl ?_)
  refine wpAny_bind (wpAny_seqItems hTI rfl ?_)
  show wpAny _ _ (Builtin.SmallTypes.ownedTupleIsFree (.ref z) >>= _) _ _ _
  refine wpAny_bind ?_
  unfold Builtin.SmallTypes.ownedTupleIsFree
  refine wpAny_bind (wpAny_field hz rfl (x := .none) rfl (wpAny_pure ?_))
  simp only [if_true]
  refine wpAny_bind (wpAny_rule ?_)
  refine wpAny_bind (wpAny_field hz rfl (x := .ref TO) rfl ?_)
  refine wpAny_bind (wpAny_setField_rec hz (by simp) fun g1 hz1 hs1 => ?_)
  replace hz1 : IsZip g1 z TI TO .ellipsis := hz1
  have at1 := hat.keep hs1.extBut D.i1z D.i2z D.l1z D.l2z
  refine wpAny_bind ?_
  simp only [List.zipIdx_cons, List.zipIdx_nil, List.forIn_cons, List.forIn_nil]
  refine wpAny_bind (wpAny_bind (wpAny_onRaise ?_))
  show wpAny _ _ (Builtin.SmallTypes.nextOf (.ref i1) >>= _) _ _ _
  refine wpAny_bind (next_item at1.a at1.la hx fun g2 i2' hs2 => wpAny_pure ?_)
  have at2 : At g2 i1 i2 l1 l2 xs ys (k1 + 1) k2 := ⟨i2', at1.b.at fun o e => hs2.extBut _ o D.i12.symm e, at1.la.at fun o e => hs2.extBut _ o D.l1i1 e, at1.lb.at fun o e => hs2.extBut _ o D.l2i1 e⟩
  have hTO2 : IsPair g2 TO a b := hs2.extBut _ _ D.TOi1 (hs1.extBut _ _ D.TOz hTO)
  refine wpAny_bind (wpAny_seqItems hTO2 rfl ?_)
  refine wpAny_bind (wpAny_updateSeq_pair hTO2 fun g3 hTO3 hs3 => ?_)
  replace hTO3 : IsPair g3 TO x b := hTO3
  have at3 := at2.keep hs3.extBut D.TOi1.symm D.TOi2.symm D.l1TO D.l2TO
  refine wpAny_bind (wpAny_letGo (wpAny_pure ?_))
  refine wpAny_bind (wpAny_bind (wpAny_onRaise ?_))
  show wpAny _ _ (Builtin.SmallTypes.nextOf (.ref i2) >>= _) _ _ _
  refine wpAny_bind (next_item at3.b at3.lb hy fun g4 i4' hs4 => wpAny_pure ?_)
  have at4 : At g4 i1 i2 l1 l2 xs ys (k1 + 1) (k2 + 1) := ⟨at3.a.at fun o e => hs4.extBut _ o D.i12 e, i4', at3.la.at fun o e => hs4.extBut _ o D.l1i2 e, at3.lb.at fun o e => hs4.extBut _ o D.l2i2 e⟩
  have hTO4 : IsPair g4 TO x b := hs4.extBut _ _ D.TOi2 hTO3
  refine wpAny_bind (wpAny_seqItems hTO4 rfl ?_)
  refine wpAny_bind (wpAny_updateSeq_pair hTO4 fun g5 hTO5 hs5 => ?_)
  replace hTO5 : IsPair g5 TO x y := hTO5
  have at5 := at4.keep hs5.extBut D.TOi1.symm D.TOi2.symm D.l1TO D.l2TO
  refine wpAny_bind (wpAny_letGo (wpAny_pure (wpAny_pure ?_)))
  refine wpAny_bind (wpAny_seqItems hTO5 rfl ?_)
  refine wpAny_bind (wpAny_newTuple ?_)
  have hsz : g5.objs.size = s.heap.objs.size := by rw [hs5.1, hs4.1, hs3.1, hs2.1, hs1.1]
  have hz5 : IsZip g5 z TI TO .ellipsis := hs5.extBut _ _ D.TOz.symm (hs4.extBut _ _ D.i2z.symm (hs3.extBut _ _ D.TOz.symm (hs2.extBut _ _ D.i1z.symm hz1)))
  have hzlt : z < g5.objs.size := Heap.lt_size hz5
  show wpAny _ _ (Builtin.SmallTypes.ownedTupleHandOut (.ref z) (.ref g5.objs.size) >>= _) _ _ _
  refine wpAny_bind ?_
  unfold Builtin.SmallTypes.ownedTupleHandOut
  have hz6 : IsZip (g5.push { cls := .type "tuple", data := .seq #[x, y] }) z TI TO .ellipsis := Heap.get?_push_of_some _ hz5
  refine wpAny_bind (wpAny_setField_rec hz6 (by simp) fun g7 hz7 hs7 => ?_)
  replace hz7 : IsZip g7 z TI TO (rawInt g5.objs.size) := hz7
  refine wpAny_setField_rec hz7 (by simp) fun g8 hz8 hs8 => ?_
  replace hz8 : IsZip g8 z TI TO (rawInt g5.objs.size) := hz8
  have up : ∀ c o, c ≠ z → g5.get? c = some o → g8.get? c = some o := fun c o c1 e => hs8.extBut _ _ c1 (hs7.extBut _ _ c1 (Heap.get?_push_of_some _ e))
  have hT8 : IsPair g8 g5.objs.size x y := hs8.extBut _ _ (Nat.ne_of_gt hzlt) (hs7.extBut _ _ (Nat.ne_of_gt hzlt) (Heap.get?_push_size _ rfl))
  rw [hsz] at hz8 hT8
  refine wpAny_pure ⟨_, rfl, by show Value.ref g5.objs.size = _; rw [hsz], ?_⟩
  show Q (some (.ref g5.objs.size)) _
  rw [hsz]
  exact hQ g8 hz8 (up _ _ D.TOz hTO5) (at5.keep (d := z) (fun c o hc e => up c o hc e) D.i1z D.i2z D.l1z D.l2z) hT8 fun c o c1 c2 c3 c4 e =>
    up c o c1 (hs5.extBut _ _ c2 (hs4.extBut _ _ c4 (hs3.extBut _ _ c2 (hs2.extBut _ _ c3 (hs1.extBut _ _ c1 e)))))
theorem fin {z TI TO i1 i2 l1 l2 : Addr} {k1 k2 : Nat} {xs ys : Array Value} {a b : Value} {Q : Option Value → Shared → Prop} {E : Value → Shared → Prop} (hh : A.handled = none) (D : ZipApart z TI TO i1 i2 l1 l2)
    (hz : IsZip s.heap z TI TO .none) (hTI : IsPair s.heap TI (.ref i1) (.ref i2)) (hTO : IsPair s.heap TO a b) (hat : At s.heap i1 i2 l1 l2 xs ys k1 k2) (hend : xs[k1]? = none ∨ ys[k2]? = none)
    (hQ : ∀ h', (∀ c o, c ≠ z → c ≠ TO → c ≠ i1 → c ≠ i2 → s.heap.get? c = some o → h'.get? c = some o) → Q none { s with heap := h' }) : wpAny (model prog w) A (pyNext (.ref z)) Q E s := by
  have hT : s.TypeIs (.ref z) "zip" := ⟨_, hz, rfl⟩
  unfold pyNext
  have stop : ∀ h' e, (∀ c o, c ≠ z → c ≠ TO → c ≠ i1 → c ≠ i2 → s.heap.get? c = some o → h'.get? c = some o) → (∃ o, h'.get? e = some o ∧ o.cls = .type "StopIteration") →
      wpAny (model prog w) A (do if ← isInstance (.ref e) (.type "StopIteration") then pure none else throw (.ref e)) Q E { s with heap := h' } := fun h' e hk ⟨o, ho, hc⟩ =>
    wpAny_bind (wpAny_isInstance (T := "StopIteration") (b := true) ⟨o, ho, hc⟩ isSubtype_stop (wpAny_pure (hQ _ hk)))
  refine wpAny_bind (wpAny_attempt (wpAny_callSpecial?_slot (name := Str.ofString "__next__") hT F.slot_zip_next (wpAny_call_entry F.slot_zip_next hT F.entry_zip_next ?_ (F.args_zip_next_1 _))))
  show wpAny _ _ (field (.ref z) 2 >>= _) _ _ _
  refine wpAny_bind (wpAny_field hz rfl (x := .bool false) rfl ?_)
  show wpAny _ _ (field (.ref z) 3 >>= _) _ _ _
  refine wpAny_bind (wpAny_field hz rfl (x := .ref TI) rfl ?_)
  refine wpAny_bind (wpAny_seqItems hTI rfl ?_)
  show wpAny _ _ (Builtin.SmallTypes.ownedTupleIsFree (.ref z) >>= _) _ _ _
  refine wpAny_bind ?_
  unfold Builtin.SmallTypes.ownedTupleIsFree
  refine wpAny_bind (wpAny_field hz rfl (x := .none) rfl (wpAny_pure ?_))
  simp only [if_true]
  refine wpAny_bind (wpAny_rule ?_)
  refine wpAny_bind (wpAny_field hz rfl (x := .ref TO) rfl ?_)
  refine wpAny_bind (wpAny_setField_rec hz (by simp) fun g1 hz1 hs1 => ?_)
  replace hz1 : IsZip g1 z TI TO .ellipsis := hz1
  have at1 := hat.keep hs1.extBut D.i1z D.i2z D.l1z D.l2z
  refine wpAny_bind ?_
  simp only [List.zipIdx_cons, List.zipIdx_nil, List.forIn_cons, List.forIn_nil]
  refine wpAny_bind (wpAny_bind (wpAny_onRaise ?_))
  show wpAny _ _ (Builtin.SmallTypes.nextOf (.ref i1) >>= _) _ _ _
  cases hx : xs[k1]? with
  | none =>
    refine wpAny_bind (next_end hh at1.a at1.la hx fun g2 e hs2 ⟨oe, hoe, hce⟩ => ?_)
    have hz2 : IsZip g2 z TI TO .ellipsis := hs2 _ _ D.i1z.symm hz1
    have hez : e ≠ z := fun x => by subst x; rw [hz2] at hoe; cases hoe; simp at hce
    exact wpAny_setField_rec hz2 (by simp) fun g3 _ hs3 => stop g3 e (fun c o c1 _ c3 _ x => hs3.extBut _ _ c1 (hs2 _ _ c3 (hs1.extBut _ _ c1 x))) ⟨oe, hs3.extBut _ _ hez hoe, hce⟩
  | some x =>
    have hy : ys[k2]? = none := by rcases hend with h | h; rw [hx] at h; cases h; exact h
    refine wpAny_bind (next_item at1.a at1.la hx fun g2 i2' hs2 => wpAny_pure ?_)
    have at2 : At g2 i1 i2 l1 l2 xs ys (k1 + 1) k2 := ⟨i2', at1.b.at fun o e => hs2.extBut _ o D.i12.symm e, at1.la.at fun o e => hs2.extBut _ o D.l1i1 e, at1.lb.at fun o e => hs2.extBut _ o D.l2i1 e⟩
    have hTO2 : IsPair g2 TO a b := hs2.extBut _ _ D.TOi1 (hs1.extBut _ _ D.TOz hTO)
    refine wpAny_bind (wpAny_seqItems hTO2 rfl ?_)
    refine wpAny_bind (wpAny_updateSeq_pair hTO2 fun g3 hTO3 hs3 => ?_)
    have at3 := at2.keep hs3.extBut D.TOi1.symm D.TOi2.symm D.l1TO D.l2TO
    refine wpAny_bind (wpAny_letGo (wpAny_pure ?_))
    refine wpAny_bind (wpAny_bind (wpAny_onRaise ?_))
    show wpAny _ _ (Builtin.SmallTypes.nextOf (.ref i2) >>= _) _ _ _
    refine wpAny_bind (next_end hh at3.b at3.lb hy fun g4 e hs4 ⟨oe, hoe, hce⟩ => ?_)
    have hz4 : IsZip g4 z TI TO .ellipsis := hs4 _ _ D.i2z.symm (hs3.extBut _ _ D.TOz.symm (hs2.extBut _ _ D.i1z.symm hz1))
    have hez : e ≠ z := fun x => by subst x; rw [hz4] at hoe; cases hoe; simp at hce
    exact wpAny_setField_rec hz4 (by simp) fun g5 _ hs5 => stop g5 e (fun c o c1 c2 c3 c4 x => hs5.extBut _ _ c1 (hs4 _ _ c4 (hs3.extBut _ _ c2 (hs2.extBut _ _ c3 (hs1.extBut _ _ c1 x))))) ⟨oe, hs5.extBut _ _ hez hoe, hce⟩
abbrev P1 (h : Heap) (l1 : Addr) : Heap := h.push { cls := .type "tuple_iterator", data := .fields #[.ref l1, .int 0 0] }
abbrev P2 (h : Heap) (l1 l2 : Addr) : Heap := (P1 h l1).push { cls := .type "tuple_iterator", data := .fields #[.ref l2, .int 0 0] }
abbrev P3 (h : Heap) (l1 l2 : Addr) : Heap := (P2 h l1 l2).push { cls := .type "tuple", data := .seq #[.ref h.objs.size, .ref (P1 h l1).objs.size] }
abbrev P4 (h : Heap) (l1 l2 : Addr) : Heap := (P3 h l1 l2).push { cls := .type "tuple", data := .seq #[.none, .none] }
abbrev P5 (h : Heap) (l1 l2 : Addr) : Heap := (P4 h l1 l2).push { cls := .type "zip", data := .fields #[.none, .bool false, .bool false, .ref (P2 h l1 l2).objs.size, .ref (P3 h l1 l2).objs.size] }
theorem made (l1 l2 : Addr) (xs ys : Array Value) :
    Meets (Builtin.«zip.__new__» ⟨[.type "zip", .ref l1, .ref l2], []⟩) (fun _ R s => s.heap.IsTuple l1 xs ∧ s.heap.IsTuple l2 ys ∧ R (.ok (.ret (.ref (P4 s.heap l1 l2).objs.size))) { s with heap := P5 s.heap l1 l2 }) :=
  .of_wp fun prog w A R s h => by
    obtain ⟨hp, g, d, tk, os⟩ := s
    obtain ⟨hl1, hl2, h⟩ := h
    have hsub := sub_zip
    have hL1 : Heap.IsTuple (Shared.heap ⟨hp, g, d, tk, os⟩) l1 xs := hl1
    have hL2 : Heap.IsTuple (Shared.heap ⟨hp.push { cls := .type "tuple_iterator", data := .fields #[.ref l1, .int 0 0] }, g, d, tk, os⟩) l2 ys := hl2.at fun o e => Heap.get?_push_of_some _ e
    wp_walk using wpAny_pyIter_tuple hL1, wpAny_pyIter_tuple hL2
    exact ⟨_, rfl, h⟩
theorem call2 {E : Value → Shared → Prop} {l1 l2 : Addr} {xs ys : Array Value} {Q : Value → Shared → Prop} (hl1 : s.heap.IsTuple l1 xs) (hl2 : s.heap.IsTuple l2 ys)
    (h : ∀ h', IsZip h' (s.heap.objs.size + 4) (s.heap.objs.size + 2) (s.heap.objs.size + 3) .none → IsPair h' (s.heap.objs.size + 2) (.ref s.heap.objs.size) (.ref (s.heap.objs.size + 1)) → IsPair h' (s.heap.objs.size + 3) .none .none →
      At h' s.heap.objs.size (s.heap.objs.size + 1) l1 l2 xs ys 0 0 → h'.objs.size = s.heap.objs.size + 5 → (∀ c o, s.heap.get? c = some o → h'.get? c = some o) → Q (.ref (s.heap.objs.size + 4)) { s with heap := h' }) :
    wpAny (model prog w) A (call (.type "zip") [.ref l1, .ref l2]) Q E s := by
  refine callType_new F.called_zip (by decide) (F.typeCall_zip_2 _ _) (F.newCall_zip_2 _ _) (fun obj => F.args_object_init_3 obj _ _) F.entry_zip_new (made l1 l2 xs ys) ⟨hl1, hl2, ?_⟩
  have z1 : (P1 s.heap l1).objs.size = s.heap.objs.size + 1 := Heap.size_push ..
  have z2 : (P2 s.heap l1 l2).objs.size = s.heap.objs.size + 2 := by rw [Heap.size_push, z1]
  have z3 : (P3 s.heap l1 l2).objs.size = s.heap.objs.size + 3 := by rw [Heap.size_push, z2]
  have z4 : (P4 s.heap l1 l2).objs.size = s.heap.objs.size + 4 := by rw [Heap.size_push, z3]
  have z5 : (P5 s.heap l1 l2).objs.size = s.heap.objs.size + 5 := by rw [Heap.size_push, z4]
  have g5 : (P5 s.heap l1 l2).get? (P4 s.heap l1 l2).objs.size = some _ := Heap.get?_push_size _ rfl
  have g4 : (P5 s.heap l1 l2).get? (P3 s.heap l1 l2).objs.size = some _ := Heap.get?_push_of_some _ (Heap.get?_push_size _ rfl)
  have g3 : (P5 s.heap l1 l2).get? (P2 s.heap l1 l2).objs.size = some _ := Heap.get?_push_of_some _ (Heap.get?_push_of_some _ (Heap.get?_push_size _ rfl))
  have g2 : (P5 s.heap l1 l2).get? (P1 s.heap l1).objs.size = some _ := Heap.get?_push_of_some _ (Heap.get?_push_of_some _ (Heap.get?_push_of_some _ (Heap.get?_push_size _ rfl)))
  have g1 : (P5 s.heap l1 l2).get? s.heap.objs.size = some _ := Heap.get?_push_of_some _ (Heap.get?_push_of_some _ (Heap.get?_push_of_some _ (Heap.get?_push_of_some _ (Heap.get?_push_size _ rfl))))
  have up : ∀ c o, s.heap.get? c = some o → (P5 s.heap l1 l2).get? c = some o := fun c o x => Heap.get?_push_of_some _ (Heap.get?_push_of_some _ (Heap.get?_push_of_some _ (Heap.get?_push_of_some _ (Heap.get?_push_of_some _ x))))
  show _ ∧ _
  rw [z2, z3, z4] at g5
  rw [z1, z2] at g3
  rw [z3] at g4
  rw [z1] at g2
  rw [z4]
  exact ⟨⟨_, g5, rfl⟩, h _ g5 g3 g4 ⟨⟨_, g1, rfl, rfl⟩, ⟨_, g2, rfl, rfl⟩, hl1.at fun o e => up _ o e, hl2.at fun o e => up _ o e⟩ z5 up⟩
theorem At.lt1 {h : Heap} {i1 i2 l1 l2 : Addr} {xs ys : Array Value} {k1 k2 : Nat} (x : At h i1 i2 l1 l2 xs ys k1 k2) : i1 < h.objs.size ∧ i2 < h.objs.size := by
  obtain ⟨_, e, _⟩ := x.a
  obtain ⟨_, e2, _⟩ := x.b
  exact ⟨Heap.lt_size e, Heap.lt_size e2⟩
theorem walks (hh : A.handled = none) (z TI TO i1 i2 l1 l2 : Addr) (D : ZipApart z TI TO i1 i2 l1 l2) (xs ys : Array Value) :
    WalksT prog w A z [z, TI, TO, i1, i2, l1, l2] [z, TO, i1, i2] (min xs.size ys.size) (fun i vals => ∃ x y, xs[i]? = some x ∧ ys[i]? = some y ∧ vals = #[x, y])
      (fun i h => IsZip h z TI TO .none ∧ IsPair h TI (.ref i1) (.ref i2) ∧ (∃ a b, IsPair h TO a b) ∧ At h i1 i2 l1 l2 xs ys i i)
      (fun i T h => IsZip h z TI TO (rawInt T) ∧ IsPair h TI (.ref i1) (.ref i2) ∧ (∃ a b, IsPair h TO a b) ∧ At h i1 i2 l1 l2 xs ys (i + 1) (i + 1) ∧ T ≠ z ∧ T ≠ TO ∧ T ≠ i1 ∧ T ≠ i2) where
  sub := fun c hc => by simp at hc ⊢; rcases hc with rfl | rfl | rfl | rfl <;> simp
  frame := fun i h h' hst hk => by
    obtain ⟨hz, hTI, ⟨a, b, hTO⟩, x⟩ := hst
    exact ⟨hk z (by simp) _ hz, hk TI (by simp) _ hTI, ⟨a, b, hk TO (by simp) _ hTO⟩, x.a.at fun o e => hk i1 (by simp) o e, x.b.at fun o e => hk i2 (by simp) o e, x.la.at fun o e => hk l1 (by simp) o e, x.lb.at fun o e => hk l2 (by simp) o e⟩
  item := fun i s Q E hi hst hQ => by
    obtain ⟨hz, hTI, ⟨a, b, hTO⟩, x⟩ := hst
    have hix : i < xs.size := Nat.lt_of_lt_of_le hi (Nat.min_le_left ..)
    have hiy : i < ys.size := Nat.lt_of_lt_of_le hi (Nat.min_le_right ..)
    refine item D hz hTI hTO x (Array.getElem?_eq_getElem hix) (Array.getElem?_eq_getElem hiy) fun h' a1 a2 a3 a5 hk => ?_
    have lt : ∀ {c o}, s.heap.get? c = some o → s.heap.objs.size ≠ c := fun e => Nat.ne_of_gt (Heap.lt_size e)
    exact hQ s.heap.objs.size #[xs[i], ys[i]] h' s.toks ⟨_, _, Array.getElem?_eq_getElem hix, Array.getElem?_eq_getElem hiy, rfl⟩ (Nat.le_refl _) ⟨_, a5, rfl, _, rfl⟩
      ⟨a1, hk _ _ D.TIz D.TITO D.TIi1 D.TIi2 hTI, ⟨_, _, a2⟩, a3, lt hz, lt hTO, Nat.ne_of_gt x.lt1.1, Nat.ne_of_gt x.lt1.2⟩
      fun c o hc e => hk c o (fun x => hc (by simp [x])) (fun x => hc (by simp [x])) (fun x => hc (by simp [x])) (fun x => hc (by simp [x])) e
  go := fun elts k pos i T s Q E hm hQ => by
    obtain ⟨hz, hTI, ⟨a, b, hTO⟩, x, _⟩ := hm
    exact wpAny_letOwnedTupleGo_zip hz fun h' hz' hs' => hQ h' ⟨hz', hs'.extBut _ _ D.TIz hTI, ⟨a, b, hs'.extBut _ _ D.TOz hTO⟩, x.keep hs'.extBut D.i1z D.i2z D.l1z D.l2z⟩ fun c o hc e => hs'.extBut _ _ (fun x => hc (by simp [x])) e
  apart := fun i T h hm hT => by
    obtain ⟨_, _, _, _, t1, t2, t3, t4⟩ := hm
    simp at hT
    rcases hT with rfl | rfl | rfl | rfl
    · exact t1 rfl
    · exact t2 rfl
    · exact t3 rfl
    · exact t4 rfl
  done := fun s Q E hst hQ => by
    obtain ⟨hz, hTI, ⟨a, b, hTO⟩, x⟩ := hst
    have hend : xs[min xs.size ys.size]? = none ∨ ys[min xs.size ys.size]? = none := by
      rcases Nat.le_total xs.size ys.size with h | h
      · exact .inl (by rw [Nat.min_eq_left h]; exact Array.getElem?_eq_none (Nat.le_refl _))
      · exact .inr (by rw [Nat.min_eq_right h]; exact Array.getElem?_eq_none (Nat.le_refl _))
    exact fin hh D hz hTI hTO x hend fun h' hk => hQ h' s.toks fun c o hc e => hk c o (fun x => hc (by simp [x])) (fun x => hc (by simp [x])) (fun x => hc (by simp [x])) (fun x => hc (by simp [x])) e
  self := fun i s Q E hst hQ => wpAny_pyIter_zip hst.1 hQ
end Zt
section
variable {w : World} {c : Cx} {m : Str → Option Value} {own P : Led} {s : Shared} {E : Value → Shared → Prop} {Q : Value → Shared → Prop}
theorem src_zipT {elts : List Expr} {kk : Nat} {pos : Pos} {l1 l2 : Addr} {xs ys : List Value} {e1 e2 : Nat} (S : St w c m own P s) (hl1 : (l1, tupOf xs e1) ∈ P) (hl2 : (l2, tupOf ys e2) ∈ P)
    (h : ∀ I s', St w c m own P s' → Itr w c (.Tuple elts kk pos) own P I s' (min xs.length ys.length) (fun i v h => ∃ T x y, v = .ref T ∧ xs[i]? = some x ∧ ys[i]? = some y ∧ h.IsTuple T #[x, y]) → Q (.ref I) s') :
    wpAny (model PySem.Challenge.rw_pq1024_01.row.prog w) c.A (call (.type "zip") [.ref l1, .ref l2]) (fun xv s₁ => wpAny (model PySem.Challenge.rw_pq1024_01.row.prog w) c.A (pyIter xv) Q E s₁) E s := by
  have h1 : s.heap.IsTuple l1 xs.toArray := ⟨_, S.inP hl1, rfl, _, rfl⟩
  have h2 : s.heap.IsTuple l2 ys.toArray := ⟨_, S.inP hl2, rfl, _, rfl⟩
  have lt1 : l1 < s.heap.objs.size := Heap.lt_size (S.inP hl1)
  have lt2 : l2 < s.heap.objs.size := Heap.lt_size (S.inP hl2)
  have D : ZipApart (s.heap.objs.size + 4) (s.heap.objs.size + 2) (s.heap.objs.size + 3) s.heap.objs.size (s.heap.objs.size + 1) l1 l2 := ktu_apart _ _ _ lt1 lt2
  refine Zt.call2 h1 h2 fun h' hz hTI hTO hat hsz hk => ?_
  refine wpAny_pyIter_zip hz ?_
  have WT := (Zt.walks (prog := PR) (w := w) S.hh _ _ _ _ _ _ _ D xs.toArray ys.toArray).toU
  have S' : St w c m own P { s with heap := h' } := S.same (tk := s.toks) (S.F.keeps hk) (S.N.grown hk) S.ap S.nd
  have W' := KTurns.ofWalksU (elts := elts) (k := kk) (pos := pos) WT
  have e : (fun (i : Nat) (v : Value) (h : Heap) => ∃ T vals, v = .ref T ∧ (∃ x y, xs.toArray[i]? = some x ∧ ys.toArray[i]? = some y ∧ vals = #[x, y]) ∧ h.IsTuple T vals) = fun i v h => ∃ T x y, v = .ref T ∧ xs[i]? = some x ∧ ys[i]? = some y ∧ h.IsTuple T #[x, y] := by
    funext i v h
    apply propext
    constructor
    · rintro ⟨T, vals, a, ⟨x, y, b, c, rfl⟩, d⟩
      exact ⟨T, x, y, a, by simpa using b, by simpa using c, d⟩
    · rintro ⟨T, x, y, a, b, c, d⟩
      exact ⟨T, _, a, ⟨x, y, by simpa using b, by simpa using c, rfl⟩, d⟩
  rw [e] at W'
  simp only [List.size_toArray] at W'
  refine h _ _ S' (Itr.mk' W' (fun i s' Q E => WT.self i s' Q E) ?_ ?_ ?_ ?_ ?_)
  · exact ⟨hz, hTI, ⟨_, _, hTO⟩, hat⟩
  · exact zz3 _
  · rintro i h ⟨hz, hTI, ⟨a, b, hTO⟩, ⟨⟨o1, ho1, _, _⟩, ⟨o2, ho2, _, _⟩, ⟨o3, ho3, _⟩, ⟨o4, ho4, _⟩⟩⟩ b hb
    have hb' : b = s.heap.objs.size + 4 ∨ b = s.heap.objs.size + 2 ∨ b = s.heap.objs.size + 3 ∨ b = s.heap.objs.size ∨ b = s.heap.objs.size + 1 ∨ b = l1 ∨ b = l2 := by simpa using hb
    rcases hb' with rfl | rfl | rfl | rfl | rfl | rfl | rfl
    · exact ⟨_, hz⟩
    · exact ⟨_, hTI⟩
    · exact ⟨_, hTO⟩
    · exact ⟨_, ho1⟩
    · exact ⟨_, ho2⟩
    · exact ⟨_, ho3⟩
    · exact ⟨_, ho4⟩
  · intro b hb
    have hb' : b = s.heap.objs.size + 4 ∨ b = s.heap.objs.size + 3 ∨ b = s.heap.objs.size ∨ b = s.heap.objs.size + 1 := by simpa using hb
    have hge : s.heap.objs.size ≤ b := zz1 _ _ hb'
    exact ⟨S.freshG hge, fun q hq => Nat.ne_of_lt (Nat.lt_of_lt_of_le (S.below q hq) hge)⟩
  · intro b hb
    have hb' : b = s.heap.objs.size + 4 ∨ b = s.heap.objs.size + 2 ∨ b = s.heap.objs.size + 3 ∨ b = s.heap.objs.size ∨ b = s.heap.objs.size + 1 ∨ b = l1 ∨ b = l2 := by simpa using hb
    show _ ∧ b < h'.objs.size ∧ _
    rw [hsz]
    have hge := zz2 _ _ _ _ hb'
    rcases hge with ⟨hge, hle⟩ | rfl | rfl
    · exact ⟨Nat.ne_of_gt (Nat.lt_of_lt_of_le S.lo hge), hle, fun q hq => Nat.ne_of_lt (Nat.lt_of_lt_of_le (S.below q (List.mem_append_left _ hq)) hge)⟩
    · exact ⟨(S.N _ (List.mem_append_right _ hl1)).2.1, Nat.lt_of_lt_of_le lt1 (Nat.le_add_right _ _), fun q hq => Ne.symm (S.ap q hq _ hl1)⟩
    · exact ⟨(S.N _ (List.mem_append_right _ hl2)).2.1, Nat.lt_of_lt_of_le lt2 (Nat.le_add_right _ _), fun q hq => Ne.symm (S.ap q hq _ hl2)⟩
end
end Mine
end
section
namespace Mine
theorem cellsAre_fst {cm : Str → Option Value} : ∀ {l : List (Str × Addr)} {cells : Led}, CellsAre cm l cells → cells.map (·.1) = l.map (·.2)
  | _, _, .nil => rfl
  | _, _, .cons h r => by rw [List.map_cons, List.map_cons, cellsAre_fst r]
theorem enterC2 {w : World} {c : Cx} {m : Str → Option Value} {own P : Led} {s : Shared} {Q E : Value → Shared → Prop} {K : Frag} {name qual : Str} {params : Arguments} {body : List Stmt} {ns : List (Str × NameKind)} {mo : List (Str × Const)} {dV kV doc pm cdv ct oc : Value} {an od : Option Addr} {osl : Array (Option Value)} {f : Addr} {vs : List Value} {vals : List (Option Value)} {Out : Led → Led → Value → Prop} {clf : Addr → List (Str × Addr)}
    (hK : K = hd.heap_39 w.params) (S : St w c m own P s)
    (ho : K.lookup f = some ⟨oc, od, .func (fnOf name qual params body (fnSc ns mo) dV kV doc pm an cdv ct), osl⟩) (hcd : codeIn K cdv qual = true) (hroom : c.A.depth < recursionLimit)
    (hbind : BindsTo s (fnOf name qual params body (fnSc ns mo) dV kV doc pm an cdv ct) ⟨vs, []⟩ ((params.args.map (·.arg)).zip vs))
    (hkind : (((params.args.map (·.arg)).zip vs).all fun y => ns.lookup y.1 == some .local || ns.lookup y.1 == some .cell) = true) (hnd : ((cellsFrom 0 ns []).map (·.1)).Nodup) (hgood : goodNs ns = true)
    (hcl : ∀ L', cellsFrom (L' + 1) ns [] = clf L') (hcn : ∀ L', ((clf L').map (·.2)).Nodup)
    (hbL : ∀ L', bindL (envOfC qual (fnSc ns mo) L' f cdv).kindOf ((params.args.map (·.arg)).zip vs) (fun _ => none) = asg ns vals)
    (h : ∀ c' s' cc, goodNs ns = true → c'.A.depth = c.A.depth + 1 → c'.A.units = c.A.units + 3 → CellsAre (bindC (envOfC qual (fnSc ns mo) c'.L f cdv).kindOf ((params.args.map (·.arg)).zip vs) fun _ => none) (clf c'.L) cc → St w c' (asg ns vals) (cc ++ own) P s' →
      wpAny (model PySem.Challenge.rw_pq1024_01.row.prog w) c'.A (execs body (envX qual (fnSc ns mo) c'.L f cdv (clf c'.L))) (fun fl s'' => Ends w c' P (fun cs P' r => cs.map (·.1) = own.map (·.1) ∧ Out cs P' r) (match fl with | .ret v => v | _ => .none) s'') (fun _ _ => False) s')
    (ret : ∀ r own' P' s', St w c m own' P' s' → own'.map (·.1) = own.map (·.1) → (∀ p ∈ P, p ∈ P') → Out own' P' r → Q r s') :
    codeAny (model PySem.Challenge.rw_pq1024_01.row.prog w) c.A (.call (.ref f) ⟨vs, []⟩) (fun r s' => match r with | .ok (.ret v) => Q v s' | .ok _ => False | .error e => E e s') s := by
  subst hK
  obtain ⟨e, hA, hf, hke⟩ := S.fr
  refine code_defC (news := own ++ P) S.B S.F S.X S.N S.T hA hf hke ho hcd hroom hbind hkind hnd (fun g L' h₁ tk cc FG F' N' Y B' X' T' lt => ?_) rfl rfl rfl
  rw [hbL] at F'
  let c' : Cx := ⟨c.pp, c.loose, c.mean, c.mg, c.mb, c.A, c.base, e :: c.outer, g, L', c.A.deeper (envOfC qual (fnSc ns mo) L' f cdv), s⟩
  have hge := cellsGe Y
  have hdisj : ∀ p ∈ own ++ P, ∀ q ∈ cc, q.1 ≠ p.1 := fun p hp q hq => Nat.ne_of_gt (Nat.lt_of_lt_of_le (Nat.lt_succ_of_lt (lt p hp)) (hge q hq))
  have S' : St w c' (asg ns vals) (cc ++ own) P { s with heap := h₁, toks := tk } := by
    refine ⟨F', fun p hp => N' p (by rw [List.append_assoc] at hp; exact hp), fun q hq p hp => ?_, ?_, X', T', B', S.hh, ⟨_, Around.frames_deeper B'.stack, rfl, rfl⟩, rfl, rfl, rfl⟩
    · rcases List.mem_append.mp hq with hq | hq
      · exact (hdisj p (List.mem_append_right _ hp) q hq).symm
      · exact S.ap q hq p hp
    · rw [List.map_append]
      refine List.nodup_append.mpr ⟨by rw [cellsAre_fst Y]; exact hcl L' ▸ hcn L', S.nd, ?_⟩
      intro a ha b hb e
      obtain ⟨q, hq, rfl⟩ := List.mem_map.mp ha
      obtain ⟨p, hp, rfl⟩ := List.mem_map.mp hb
      exact hdisj p (List.mem_append_left _ hp) q hq e
  have hb := h c' _ cc hgood rfl rfl (hcl L' ▸ Y) S'
  rw [← hcl L'] at hb
  refine wpAny_mono hb (fun fl s' hdn => ?_) fun _ _ e => e.elim
  obtain ⟨m₂, own₂, ex, P', S₂, hs, hcs, hO⟩ := hdn
  refine ⟨L', m₂, (own₂ ++ ex) ++ P', S₂.F, S₂.N, fun F₃ N₃ => ?_⟩
  have eq' : s' = { s with heap := s'.heap, toks := s'.toks } := by
    have h1 := S₂.eg
    have h2 := S₂.ed
    have h3 := S₂.eo
    cases s'
    dsimp only [c'] at h1 h2 h3
    subst h1 h2 h3
    rfl
  refine ret _ own₂ P' s' ⟨F₃, fun p hp => N₃ p ?_, fun q hq => S₂.ap q (List.mem_append_left _ hq), by rw [hcs]; exact S.nd, S.X, S.T, S.B, S.hh, S.fr, (congrArg Shared.gens eq').trans S.eg, (congrArg Shared.drawn eq').trans S.ed, (congrArg Shared.os eq').trans S.eo⟩ hcs hs hO
  rcases List.mem_append.mp hp with hp | hp
  · exact List.mem_append_left _ (List.mem_append_left _ hp)
  · exact List.mem_append_right _ hp
section
variable {w : World} {c : Cx} {m : Str → Option Value} {own P : Led} {s : Shared} {E : Value → Shared → Prop} {Q : Value → Shared → Prop} {cn : Str} {a : Addr} {ccd : Value} {cl : List (Str × Addr)}
theorem St.updF (S : St w c m own P s) {d : Addr} {o : Obj} {rest : Led} (ho : own = (d, o) :: rest) : UpdF d o (own ++ P) (fun o' => (d, o') :: (rest ++ P)) := by
  subst ho
  refine .head fun p hp => ?_
  rcases List.mem_append.mp hp with hp | hp
  · exact fun e => (List.nodup_cons.mp S.nd).1 (List.mem_map.mpr ⟨p, hp, e⟩)
  · exact S.ap _ (.head _) p hp
theorem st_cell {ns : List (Str × NameKind)} {mo : List (Str × Const)} {vals : List (Option Value)} {x : Str} {v : Value} {v₀ : Option Value} {cc : Addr} {o : Obj} {Q : Unit → Shared → Prop} (S : St w c (asg ns vals) ((cc, o) :: own) P s) (g : goodNs ns = true) (hc : cl.lookup x = some cc) (hd : o.data = .cell v₀) (hx : (x, NameKind.cell) ∈ ns)
    (h : ∀ s' o', o'.data = .cell (some v) → St w c (asg ns vals) ((cc, o') :: own) P s' → Q () s') :
    wpAny (model PySem.Challenge.rw_pq1024_01.row.prog w) c.A (storeName (envX cn (fnSc ns mo) c.L a ccd cl) x v) Q E s :=
  storeX_C S.F S.N hc (S.updF rfl) hd (fun h' o' F' N' hd' => h _ o' hd' (S.setO rfl (tk := s.toks) F' N')) rfl (goodNs_mem g hx).1
theorem compLP {x y : Str} {px py tp : Pos} {kk : Nat} {elt : Expr} {ifs : List Expr} {scope : Scope} {cl : List (Str × Addr)} {env : Env} {Fin : Led → Led → List Value → Addr → Prop} {l : Addr} {vs : List Value} {e : Nat} (S : St w c m own P s) (hl : (l, listOf vs.toArray e) ∈ P) (hb : vs.length ≤ 1000000) (hkind : scope.kind = .function) (hx : scope.names.lookup x = some .local) (hy : scope.names.lookup y = some .local) (hxy : x ≠ y)
    (R : Nat → Value → Value → Prop) (hp : ∀ (i : Nat) (v : Value), vs[i]? = some v → ∃ (T : Addr) (a b : Value) (e : Nat), v = Value.ref T ∧ (T, tupOf [a, b] e) ∈ P ∧ R i a b)
    (J : Nat → Led → Led → List Value → Prop) (h0 : J 0 own P []) (hJ : ∀ i own₁ P₁ ys, J i own₁ P₁ ys → ∀ p ∈ P, p ∈ P₁)
    (step : ∀ i own₁ P₁ P₁' tl C oC m₂ ys s₂ E', i < vs.length → J i own₁ P₁ ys → (∃ (a b : Value), R i a b ∧ m₂ x = some a ∧ m₂ y = some b) → LCg.NsObj oC m₂ → (C, oC) ∈ tl → St w c m (own₁ ++ tl) P₁' s₂ → (∀ p ∈ P₁, p ∈ P₁') →
      Stage w c.A (compEnvC scope cl C env) ifs elt (fun o s₄ => ∃ own₂ P₂, St w c m (own₂ ++ tl) P₂ s₄ ∧ (∀ p ∈ P₁', p ∈ P₂) ∧ J (i + 1) own₂ P₂ (ys ++ o.toList)) E' s₂)
    (fin : ∀ own' P' ys D, J vs.length own' P' ys → Fin own' P' ys D) :
    wpAny (model PySem.Challenge.rw_pq1024_01.row.prog w) c.A (pyIter (.ref l)) (CompAt w c m (.Tuple [.Name x px, .Name y py] kk tp) elt ifs scope cl env Fin) E s := by
  have hh := S.hh
  refine src_list (target := .Tuple [.Name x px, .Name y py] kk tp) S hl fun I s2 S2 hI => ?_
  refine ⟨I, _, _, vs.length, _, fun i m₂ => ∃ a b, R i a b ∧ m₂ x = some a ∧ m₂ y = some b, J, rfl, S2, hI, hb, ?_, h0, step, fin⟩
  rintro i v C m₁ own₁ P₁ ys s₁ Q E hi hv hJi hg hn h
  obtain ⟨T, a, b, e', rfl, hT, hR⟩ := hp i v hv
  have hT' : s₁.heap.IsTuple T #[a, b] := ⟨_, hg _ (hJ _ _ _ _ hJi _ hT), rfl, _, rfl⟩
  exact asgC_pair hh hkind hx hy hxy hn hT' fun h' tk m₂ hn' hx hy hk => h h' tk m₂ hn' ⟨a, b, hR, hx, hy⟩ hk
theorem compZT {x y : Str} {px py tp : Pos} {kk : Nat} {elt : Expr} {ifs : List Expr} {scope : Scope} {cl : List (Str × Addr)} {env : Env} {Fin : Led → Led → List Value → Addr → Prop} {l1 l2 : Addr} {xs ys₀ : List Value} {e1 e2 : Nat} (S : St w c m own P s) (hl1 : (l1, tupOf xs e1) ∈ P) (hl2 : (l2, tupOf ys₀ e2) ∈ P) (hb : min xs.length ys₀.length ≤ 1000000) (hkind : scope.kind = .function) (hx : scope.names.lookup x = some .local) (hy : scope.names.lookup y = some .local) (hxy : x ≠ y)
    (J : Nat → Led → Led → List Value → Prop) (h0 : J 0 own P [])
    (step : ∀ i own₁ P₁ P₁' tl C oC m₂ ys s₂ E', i < min xs.length ys₀.length → J i own₁ P₁ ys → (∃ a b, xs[i]? = some a ∧ ys₀[i]? = some b ∧ m₂ x = some a ∧ m₂ y = some b) → LCg.NsObj oC m₂ → (C, oC) ∈ tl → St w c m (own₁ ++ tl) P₁' s₂ → (∀ p ∈ P₁, p ∈ P₁') →
      Stage w c.A (compEnvC scope cl C env) ifs elt (fun o s₄ => ∃ own₂ P₂, St w c m (own₂ ++ tl) P₂ s₄ ∧ (∀ p ∈ P₁', p ∈ P₂) ∧ J (i + 1) own₂ P₂ (ys ++ o.toList)) E' s₂)
    (fin : ∀ own' P' ys D, J (min xs.length ys₀.length) own' P' ys → Fin own' P' ys D) :
    wpAny (model PySem.Challenge.rw_pq1024_01.row.prog w) c.A (call (.type "zip") [.ref l1, .ref l2]) (fun xv s₁ => wpAny (model PySem.Challenge.rw_pq1024_01.row.prog w) c.A (pyIter xv) (CompAt w c m (.Tuple [.Name x px, .Name y py] kk tp) elt ifs scope cl env Fin) E s₁) E s := by
  have hh := S.hh
  refine src_zipT (elts := [.Name x px, .Name y py]) (kk := kk) (pos := tp) S hl1 hl2 fun I s2 S2 hI => ?_
  refine ⟨I, _, _, _, _, fun i m₂ => ∃ a b, xs[i]? = some a ∧ ys₀[i]? = some b ∧ m₂ x = some a ∧ m₂ y = some b, J, rfl, S2, hI, hb, ?_, h0, step, fin⟩
  rintro i v C m₁ own₁ P₁ ys s₁ Q E hi ⟨T, a, b, rfl, ha, hb', hT⟩ hJi hg hn h
  exact asgC_pair hh hkind hx hy hxy hn hT fun h' tk m₂ hn' hx hy hk => h h' tk m₂ hn' ⟨a, b, ha, hb', hx, hy⟩ hk
theorem tup_from {value slice : Expr} {l : Addr} {xs : List Value} {k : Nat} {n : Nat} {u : Tok} (S : St w c m own P s) (hl : (l, tupOf xs n) ∈ P) (h1 : 1 ≤ k) (hk : k ≤ xs.length) (hz : xs.length ≤ 1000000)
    (h : ∀ D s', St w c m own ((D, tupOf (xs.drop k) 0) :: P) s' → Q (.ref D) s')
    (hs : subscripted slice false (.ref l) (.ref s.heap.objs.size) = operate [.ref s.heap.objs.size, .ref l] (getItem (.ref l) (.ref s.heap.objs.size))) (ht : ∀ r, letTemporaryGo value (.ref l) r = pure ()) :
    wpAny (model PySem.Challenge.rw_pq1024_01.row.prog w) c.A (subscriptTail value slice (.ref l) (.ref s.heap.objs.size)) Q E { s with heap := s.heap.push { cls := .type "slice", data := .fields #[.int (k : Nat) u, .none, .none] } } := by
  refine slice_tuple_from S.F S.N (S.N.isTup (List.mem_append_right _ hl)) h1 (by simpa using hk) (fun h' F' N' => h _ _ (S.addP (tk := s.toks) F' N' fun p hp => Nat.lt_succ_of_lt (S.below p hp))) hs ht (by rw [List.size_toArray]; exact fits_le hz)
theorem add_tup {t b : Addr} {vs ws : List Value} {e1 e2 : Nat} (S : St w c m own P s) (ht : (t, tupOf vs e1) ∈ P) (hb : (b, tupOf ws e2) ∈ P) (hz : vs.length + ws.length ≤ 1000000)
    (h : ∀ D e P' s', St w c m own P' s' → (∀ p ∈ P, p ∈ P') → (D, tupOf (vs ++ ws) e) ∈ P' → Q (.ref D) s') :
    wpAny (model PySem.Challenge.rw_pq1024_01.row.prog w) c.A (binaryOp .Add (.ref t) (.ref b)) Q E s := by
  refine add_tuples S.F S.N (S.N.isTup (List.mem_append_right _ ht)) (S.N.isTup (List.mem_append_right _ hb)) (fun e => ?_) (fun _ e => ?_) (fun _ _ h' F' N' => ?_) (fits_le hz)
  · subst e; exact h b e2 P s S (fun _ h => h) hb
  · subst e; exact h t e1 P s S (fun _ h => h) (by rw [List.append_nil]; exact ht)
  · exact h _ 0 _ _ (S.addP (tk := s.toks) F' N' fun p hp => S.below p hp) (fun p hp => .tail _ hp) (.head _)
theorem len_T {l : Addr} {xs : List Value} {e : Nat} (S : St w c m own P s) (hl : (l, tupOf xs e) ∈ P) (hz : xs.length ≤ 1000000) (h : ∀ s' tk, St w c m own P s' → Q (.int (xs.length : Nat) tk) s') :
    wpAny (model PySem.Challenge.rw_pq1024_01.row.prog w) c.A (call (.builtin "len") [.ref l]) Q E s :=
  PyProof.Rows.len_tuple (S.N.isTup (List.mem_append_right _ hl)) (by rw [List.size_toArray]; omega) (by rw [List.size_toArray]; exact h _ _ (S.tok _))
theorem list_ofT {b : Addr} {xs : List Value} {n : Nat} (S : St w c m own P s) (hb : (b, tupOf xs n) ∈ P) (hz : xs.length ≤ 1000000)
    (h : ∀ D e s', St w c m own ((D, listOf xs.toArray e) :: P) s' → Q (.ref D) s') : wpAny (model PySem.Challenge.rw_pq1024_01.row.prog w) c.A (call (.type "list") [.ref b]) Q E s :=
  kup_listOfT (zs := xs) S.F S.N (List.mem_append_right _ hb) (by simp) (fun D e h' F' N' lt => h D e _ (S.addP (tk := s.toks) F' N' lt)) (by simpa using fits_le hz)
theorem unp3 {T : Addr} {x y z : Value} {e : Nat} {Q : List Value → Shared → Prop} (S : St w c m own P s) (ht : (T, tupOf [x, y, z] e) ∈ P) (h : ∀ s', St w c m own P s' → Q [x, y, z] s') :
    wpAny (model PySem.Challenge.rw_pq1024_01.row.prog w) c.A (unpackItems (.ref T) 3 none) Q E s :=
  unpackItems_tuple (items := #[x, y, z]) S.hh ⟨_, S.inP ht, rfl, _, rfl⟩ fun h' he => h _ (by
    have he' : ∀ b o, s.heap.get? b = some o → h'.get? b = some o := fun b o e => he b o (Nat.ne_of_lt (Heap.lt_size e)) e
    exact S.same (tk := s.toks) (S.F.keeps he') (S.N.grown he') S.ap S.nd)
theorem asgF_triple {x y z : Str} {px py pz tp : Pos} {kk : Nat} {cn : Str} {ns : List (Str × NameKind)} {mo : List (Str × Const)} {a₀ : Addr} {ccd : Value} {cl : List (Str × Addr)} {vals : List (Option Value)} {T : Addr} {a b d : Value} {e : Nat} {Q : Unit → Shared → Prop} (S : St w c (asg ns vals) own P s) (g : goodNs ns = true) (ht : (T, tupOf [a, b, d] e) ∈ P)
    (h : SetQ ns vals x a (fun vals₁ => SetQ ns vals₁ y b (fun vals₂ => SetQ ns vals₂ z d (fun vals₃ => ∀ s', St w c (asg ns vals₃) own P s' → Q () s')))) :
    wpAny (model PySem.Challenge.rw_pq1024_01.row.prog w) c.A (assign (.Tuple [.Name x px, .Name y py, .Name z pz] kk tp) (envX cn (fnSc ns mo) c.L a₀ ccd cl) (.ref T)) Q E s := by
  have ht' : s.heap.IsTuple T #[a, b, d] := ⟨_, S.inP ht, rfl, _, rfl⟩
  refine assign_Tuple_tuple S.hh ht' rfl rfl fun h₅ he => ?_
  have he' : ∀ b o, s.heap.get? b = some o → h₅.get? b = some o := fun b o e => he b o (Nat.ne_of_lt (Heap.lt_size e)) e
  have S₅ : St w c (asg ns vals) own P { s with heap := h₅ } := S.same (tk := s.toks) (S.F.keeps he') (S.N.grown he') S.ap S.nd
  obtain ⟨vals₁, l₁, vals₂, l₂, vals₃, l₃, h⟩ := h
  refine assignInOrder_cons (wpAny_assign_Name (st_loc S₅ g ⟨vals₁, l₁, fun s₁ S₁ => ?_⟩))
  refine assignInOrder_cons (wpAny_assign_Name (st_loc S₁ g ⟨vals₂, l₂, fun s₂ S₂ => ?_⟩))
  exact assignInOrder_cons (wpAny_assign_Name (st_loc S₂ g ⟨vals₃, l₃, fun s₃ S₃ => assignInOrder_nil (h _ S₃)⟩))
theorem eqDatO {u v : Value} {d e : Dat} {P₂ : Led} (n k : Nat) (S : St w c m own P s) (hu : DatIn (own ++ P) u d) (hv : DatIn P₂ v e) (h2 : ∀ p ∈ P₂, p ∈ P) (hd : kqdOk n d = true) (he : kqdOk k e = true) (hr : c.A.units + n < cLine) (h : ∀ b, (b = true ↔ d = e) → Q (.bool b) s) :
    wpAny (model PySem.Challenge.rw_pq1024_01.row.prog w) c.A (compareOp .Eq u v) Q E s := by
  obtain ⟨as, ra⟩ := kqd_in S.N n hu hd
  obtain ⟨bs, rb⟩ := kqd_in S.N k (hv.mono fun p hp => List.mem_append_right own (h2 p hp)) he
  have la := kqd_lay n d hd
  have lb := kqd_lay k e he
  refine PySem.SeqAt.compareEq_reads ra rb la.1 lb.1 (Nat.lt_of_le_of_lt (Nat.add_le_add_left (Nat.le_trans (Nat.min_le_left _ _) la.2) _) hr) ?_
  exact h _ (kqd_eqv n d e k hd he)
theorem St.abs {X : Prop} (S : St w c m own P s) (h : ∀ P', St w c m own P' s → (∀ p ∈ P, p ∈ P') → X) : X := h _ S (fun _ h => h)
end
/-- a pair of a number and a told tree -/
def KpR (P : Led) (v : Value) (p : Int × T) : Prop := ∃ q u vv e, v = .ref q ∧ (q, tupOf [.int p.1 u, vv] e) ∈ P ∧ DatIn P vv p.2.tell
theorem KpR.mono {P P' : Led} (hs : ∀ p ∈ P, p ∈ P') (v : Value) (t : Int × T) (h : KpR P v t) : KpR P' v t := by
  obtain ⟨q, u, vv, e, a, b, c⟩ := h
  exact ⟨q, u, vv, e, a, hs _ b, c.mono hs⟩
theorem kp_dall {P : Led} : ∀ {vs : List Value} {l : List (Int × T)}, All2 (KpR P) vs l → DatAll P vs (l.map fun p => .tuple [.int p.1, p.2.tell])
  | _, _, .nil => .nil
  | _, _, .cons h r => by
    obtain ⟨q, u, vv, e, rfl, hq, hv⟩ := h
    exact .cons (.tuple hq (.cons (.int _ _) (.cons hv .nil))) (kp_dall r)
theorem kp_ok (l : List (Int × T)) (B : Nat) (h : ∀ p ∈ l, 2 * p.2.dep ≤ B) : kqdOk (B + 4) (.list (l.map fun p => .tuple [.int p.1, p.2.tell])) = true := by
  show (l.map fun p => Dat.tuple [.int p.1, p.2.tell]).all (kqdOk (B + 3)) = true
  rw [List.all_eq_true]
  intro d hd
  obtain ⟨p, hp, rfl⟩ := List.mem_map.mp hd
  rw [kqd_tup]
  simp only [List.all_cons, List.all_nil, Bool.and_true, Bool.and_eq_true]
  exact ⟨kqd_int _ _, kqd_tell _ _ (h p hp)⟩
theorem kp_nil {l : List (Int × T)} : Dat.list (l.map fun p => .tuple [.int p.1, p.2.tell]) = Dat.list [] ↔ l = [] := by
  simp
section
variable {w : World} {c : Cx} {m : Str → Option Value} {own P : Led} {s : Shared} {E : Value → Shared → Prop} {Q : Value → Shared → Prop}
theorem compFst {x y : Str} {px py pe tp : Pos} {kk : Nat} {scope : Scope} {cl : List (Str × Addr)} {env : Env} {Fin : Led → Led → List Value → Addr → Prop} {l : Addr} {vs : List Value} {e : Nat} {kp : List (Int × T)} (S : St w c m own P s) (hl : (l, listOf vs.toArray e) ∈ P) (hv : All2 (KpR P) vs kp) (hb : vs.length ≤ 1000000) (hkind : scope.kind = .function) (hx : scope.names.lookup x = some .local) (hy : scope.names.lookup y = some .local) (hxy : x ≠ y) (hd : (x == ("__debug__" : Str)) = false)
    (fin : ∀ P' ys D, (∀ p ∈ P, p ∈ P') → IntsAre ys (kp.map (·.1)) → Fin own P' ys D) :
    wpAny (model PySem.Challenge.rw_pq1024_01.row.prog w) c.A (pyIter (.ref l)) (CompAt w c m (.Tuple [.Name x px, .Name y py] kk tp) (.Name x pe) [] scope cl env Fin) E s := by
  refine compLP S hl hb hkind hx hy hxy (fun i a b => ∃ p u, kp[i]? = some p ∧ a = .int p.1 u ∧ DatIn P b p.2.tell) ?_ (fun i own₁ P₁ ys => own₁ = own ∧ (∀ p ∈ P, p ∈ P₁) ∧ IntsAre ys ((kp.take i).map (·.1))) ⟨rfl, fun _ h => h, .nil⟩ (fun _ _ _ _ h => h.2.1) ?_ ?_
  · intro i v hi
    obtain ⟨p, hp, q, u, vv, e, rfl, hq, hvv⟩ := hv.get hi
    exact ⟨q, _, vv, e, rfl, hq, p, u, hp, rfl, hvv⟩
  · rintro i own₁ P₁ P₁' tl C oC m₂ ys s₂ E' hi ⟨rfl, hPi, hys⟩ ⟨a, b, ⟨p, u, hp, rfl, hvv⟩, hma, hmb⟩ hC htl S hs
    show wpAny _ _ _ _ _ _
    refine cv_loc S (List.mem_append_right _ htl) hC hma ?_ (by simp [compEnvC, relabel, hkind]) (lookup_relabel_local hx) hd
    refine ⟨_, _, S, fun _ h => h, rfl, fun p hp => hs _ (hPi _ hp), ?_⟩
    rw [List.take_add_one, hp, List.map_append]
    exact hys.append (.cons _ _ .nil)
  · rintro own' P' ys D ⟨rfl, hP, hys⟩
    rw [hv.length, List.take_length] at hys
    exact fin _ _ _ hP hys
theorem compSnd {x y : Str} {px py pe tp : Pos} {kk : Nat} {scope : Scope} {cl : List (Str × Addr)} {env : Env} {Fin : Led → Led → List Value → Addr → Prop} {l : Addr} {vs : List Value} {e : Nat} {kp : List (Int × T)} (S : St w c m own P s) (hl : (l, listOf vs.toArray e) ∈ P) (hv : All2 (KpR P) vs kp) (hb : vs.length ≤ 1000000) (hkind : scope.kind = .function) (hx : scope.names.lookup x = some .local) (hy : scope.names.lookup y = some .local) (hxy : x ≠ y) (hd : (y == ("__debug__" : Str)) = false)
    (fin : ∀ P' ys D, (∀ p ∈ P, p ∈ P') → DatAll P' ys (tells (kp.map (·.2))) → Fin own P' ys D) :
    wpAny (model PySem.Challenge.rw_pq1024_01.row.prog w) c.A (pyIter (.ref l)) (CompAt w c m (.Tuple [.Name x px, .Name y py] kk tp) (.Name y pe) [] scope cl env Fin) E s := by
  refine compLP S hl hb hkind hx hy hxy (fun i a b => ∃ p u, kp[i]? = some p ∧ a = .int p.1 u ∧ DatIn P b p.2.tell) ?_ (fun i own₁ P₁ ys => own₁ = own ∧ (∀ p ∈ P, p ∈ P₁) ∧ DatAll P₁ ys (tells ((kp.take i).map (·.2)))) ⟨rfl, fun _ h => h, .nil⟩ (fun _ _ _ _ h => h.2.1) ?_ ?_
  · intro i v hi
    obtain ⟨p, hp, q, u, vv, e, rfl, hq, hvv⟩ := hv.get hi
    exact ⟨q, _, vv, e, rfl, hq, p, u, hp, rfl, hvv⟩
  · rintro i own₁ P₁ P₁' tl C oC m₂ ys s₂ E' hi ⟨rfl, hPi, hys⟩ ⟨a, b, ⟨p, u, hp, rfl, hvv⟩, hma, hmb⟩ hC htl S hs
    show wpAny _ _ _ _ _ _
    refine cv_loc S (List.mem_append_right _ htl) hC hmb ?_ (by simp [compEnvC, relabel, hkind]) (lookup_relabel_local hy) hd
    refine ⟨_, _, S, fun _ h => h, rfl, fun p hp => hs _ (hPi _ hp), ?_⟩
    rw [List.take_add_one, hp, List.map_append, tells_append]
    exact (hys.mono hs).append (.cons (hvv.mono fun p hp => hs _ (hPi _ hp)) .nil)
  · rintro own' P' ys D ⟨rfl, hP, hys⟩
    rw [hv.length, List.take_length] at hys
    exact fin _ _ _ hP hys
end
theorem seqOf_ne1 {l : List T} (h : ¬ l.length = 1) : seqOf l = .seq l := by
  match l with
  | [] => rfl
  | [_] => exact absurd rfl h
  | _ :: _ :: _ => rfl
end Mine
end
section
namespace Mine
theorem wk_tell (t : T) (h : noFix t = true) (f : T → T) : (t.wk (t.kids.map f)).tell = .tuple [.int t.kind, .tuple t.own, .tuple (tells (t.kids.map f))] := by
  cases t <;> first | rfl | (simp [noFix] at h; done) | simp [T.wk, T.kids, T.tell, T.kind, T.own, tells]
theorem turn_not8 {c : Int → Nat} {t : T} (h : ¬ t.kind = 8) : turn c t = t := by
  cases t <;> first | rfl | exact absurd rfl h
theorem wk_kind (t : T) (l : List T) : (t.wk l).kind = t.kind := by
  unfold T.wk; split <;> rfl
theorem turn_not7 {c : Int → Nat} {f : T} {xs : List T} (h : ¬ f.kind = 7) : turn c (.call f xs) = .call f xs := by
  cases f <;> first | rfl | exact absurd rfl h
theorem kind8 {f : T} (h : f.kind = 8) : ∃ g xs, f = .call g xs := by cases f <;> first | exact ⟨_, _, rfl⟩ | cases h
theorem dall_cons {P : Led} {vs : List Value} {d : Dat} {ds : List Dat} (h : DatAll P vs (d :: ds)) : ∃ v r, vs = v :: r ∧ DatIn P v d ∧ DatAll P r ds := by cases h with | cons a r => exact ⟨_, _, rfl, a, r⟩
theorem dall_nil {P : Led} {vs : List Value} (h : DatAll P vs []) : vs = [] := by cases h; rfl
theorem din_int {P : Led} {v : Value} {i : Int} (h : DatIn P v (.int i)) : ∃ t, v = .int i t := by cases h; exact ⟨_, rfl⟩
theorem din_tup {P : Led} {v : Value} {ds : List Dat} (h : DatIn P v (.tuple ds)) : ∃ a vs e, v = .ref a ∧ (a, tupOf vs e) ∈ P ∧ DatAll P vs ds := by cases h with | tuple hm ha => exact ⟨_, _, _, rfl, hm, ha⟩
theorem dall_ints {P : Led} : ∀ {vs : List Value} {ns : List Int}, DatAll P vs (dints ns) → IntsAre vs ns
  | vs, [], h => by rw [dall_nil h]; exact .nil
  | vs, n :: r, h => by
    obtain ⟨v, vs', rfl, h1, h2⟩ := dall_cons h
    obtain ⟨t, rfl⟩ := din_int h1
    exact .cons _ _ (dall_ints h2)
theorem ints_dall {P : Led} : ∀ {vs : List Value} {ns : List Int}, IntsAre vs ns → DatAll P vs (dints ns)
  | _, _, .nil => .nil
  | _, _, .cons _ _ h => .cons (.int _ _) (ints_dall h)
theorem fin8_late (i : Fin 8) : Str.ofString (toString (i.val : Int)) ≠ Str.ofString "late" := by revert i; decide +kernel
theorem tell_un (t : T) : t.tell = .tuple [.int 0, .tuple [.str (Str.ofString "late")], .tuple []] ↔ t.isUn = true := by
  cases t with
  | cun => exact ⟨fun _ => rfl, fun _ => rfl⟩
  | cint i =>
    refine ⟨fun h => ?_, fun h => by cases h⟩
    exfalso
    simp only [T.tell, Dat.tuple.injEq, List.cons.injEq, Dat.str.injEq, and_true, true_and] at h
    exact fin8_late i h
  | _ => exact ⟨fun h => by simp [T.tell] at h, fun h => by cases h⟩
abbrev TkR (P : Led) (v : Value) (t : T) : Prop := KpR P v (t.num, t.valu)
theorem TkR.mono {P P' : Led} (hs : ∀ p ∈ P, p ∈ P') (v : Value) (t : T) (h : TkR P v t) : TkR P' v t := KpR.mono hs v _ h
theorem isE_ne3 {t : T} (h : ¬ t.kind = 3) : isE t = false := by cases t <;> first | rfl | exact absurd rfl h
theorem kind3 {t : T} (h : t.kind = 3) : ∃ n v, t = .setl n v := by cases t <;> first | exact ⟨_, _, rfl⟩ | cases h
theorem isE_any (n : Int) (v : T) : isE (.setl n v) = ([7, 0] : List Int).any (· == v.kind) := by
  show (v.kind == 7 || v.kind == 0) = ((7 == v.kind) || ((0 == v.kind) || false))
  rw [BEq.comm (a := v.kind), BEq.comm (a := v.kind) (b := 0), Bool.or_false]
theorem kp_dep {items : List T} {tk : List T} {B : Nat} (hs : ∀ t ∈ tk, t ∈ items) (hB : ∀ t ∈ items, 2 * t.dep ≤ B) : ∀ p ∈ tk.map (fun t => (t.num, t.valu)), 2 * p.2.dep ≤ B := by
  intro p hp
  obtain ⟨t, ht, rfl⟩ := List.mem_map.mp hp
  have h1 := hB t (hs t ht)
  have h2 := dep_valu t
  show 2 * t.valu.dep ≤ B
  omega
theorem dall_drop {P : Led} : ∀ {vs : List Value} {ts : List T}, DatAll P vs (tells ts) → ∀ k, DatAll P (vs.drop k) (tells (ts.drop k))
  | _, _, h, 0 => h
  | vs, [], h, k + 1 => by rw [dall_nil h]; exact .nil
  | vs, t :: r, h, k + 1 => by
    obtain ⟨v, vs', rfl, h1, h2⟩ := dall_cons h
    exact dall_drop h2 k
theorem All2.mapR {δ ε : Type} {R : Value → ε → Prop} {g : δ → ε} : ∀ {vs : List Value} {ds : List δ}, All2 (fun v d => R v (g d)) vs ds → All2 R vs (ds.map g)
  | _, _, .nil => .nil
  | _, _, .cons h r => .cons h r.mapR
local macro_rules | `(tactic| k_mem) => `(tactic| with_reducible first | exact List.mem_cons_self | assumption | (refine List.mem_cons_of_mem _ ?_; k_mem))
local macro_rules | `(tactic| k_places) => `(tactic| with_reducible first | exact fun _ h => h | assumption | (intro p hp; k_mem))
local macro_rules | `(tactic| kat_tups) => `(tactic| with_reducible first | exact List.mem_cons_self | (refine List.mem_cons_of_mem _ ?_; kat_tups))
local macro_rules | `(tactic| keq_rows) => `(tactic| with_reducible first | refine LocQ.here ?_ | (refine LocQ.there ?_; keq_rows))
local macro_rules | `(tactic| keq_hits) => `(tactic| with_reducible first | refine SetQ.here ?_ | refine SetQ.hereN ?_ | (refine SetQ.there ?_; keq_hits) | (refine SetQ.thereN ?_; keq_hits))
local macro_rules | `(tactic| fold_lay) => `(tactic| (refine enter (K := hd.heap_39 _) rfl (by assumption) (by k_is) (by k_is) (by omega) (by exact BindsTo.of_eq rfl) (by exact rfl) (by kernel_rfl) ?_ (by assumption)))
local macro_rules | `(tactic| k_allIn) => `(tactic| with_reducible first | exact sl0 | exact sl1 | exact sl2 | exact sl3 | exact sl4)
local macro_rules | `(tactic| k_ownIn) => `(tactic| with_reducible first | exact tl0 | exact tl1 | exact tl2 | exact tl3 | exact Nat.le_trans (Nat.le_of_eq (IntsAre.length (by assumption))) (by assumption))
local macro_rules | `(tactic| k_subL) => `(tactic| with_reducible first | exact g_CONST _ | exact g_LOCAL _ | exact g_GLOBAL _ | exact g_SET_LOCAL _ | exact g_SET_GLOBAL _ | exact g_DEFINE _ | exact g_LAMBDA _ | exact g_CALL _ | exact g_SEQ _ | exact g_PRIM _ | exact g_FIX _ | exact g_TOP _ | exact g_UNASSIGNED _ | exact g_Const _ | exact g_Local _ | exact g_Global _ | exact g_SetLocal _ | exact g_Lambda _ | exact g_Call _ | exact g_Seq _ | exact g_Fix _ | exact g_are_same_list _ | exact g_rebuilt _ | exact g_let_node _ | exact g_is_let _ | exact g_seq_of _ | exact g_Facts _ | exact g_count_in _ | exact g_note_node _ | exact g_facts_of _ | exact g_Pair _ | exact g_is_unassigned _ | exact g_begun_late _ | exact g_Fixing _ | exact g_fixed _ | exact g_law_draw _ | exact g_law_deck_of _ | exact g_law_one _ | exact g_law_new _ | exact g_law_told _ | exact g_law_value_of _ | exact g_law_late _ | exact g_law_times_set _ | exact g_law_due_of _ | exact kp_Const _ | exact kp_Local _ | exact kp_Global _ | exact kp_SetLocal _ | exact kp_Lambda _ | exact kp_Call _ | exact kp_Seq _ | exact kp_Fix _ | exact kp_are_same_list _ | exact kp_rebuilt _ | exact kp_let_node _ | exact kp_is_let _ | exact kp_seq_of _ | exact kp_Facts _ | exact kp_count_in _ | exact kp_note_node _ | exact kp_facts_of _ | exact kp_Pair _ | exact kp_is_unassigned _ | exact kp_begun_late _ | exact kp_Fixing _ | exact kp_fixed _ | exact kp_law_draw _ | exact kp_law_deck_of _ | exact kp_law_one _ | exact kp_law_new _ | exact kp_law_told _ | exact kp_law_value_of _ | exact kp_law_late _ | exact kp_law_times_set _ | exact kp_law_due_of _ | exact gn_len _ | exact gn_range _ | exact gn_tuple _ | exact gn_isinstance _ | exact gn_int _ | exact gn_bool _ | exact gn_repr _ | exact gn_list _ | exact gn_zip _ | exact gn_abs _ | exact gn_sum _ | exact bt_len | exact bt_isinstance | exact bt_repr | exact bt_abs | exact bt_sum | exact bt_ne_len | exact ne_isinstance | exact ne_repr | exact bt_ne_abs | exact bt_ne_sum | exact bt_ne_range | exact bt_ne_tuple | exact bt_ne_list | exact bt_ne_zip | exact ne_int | exact bt_range | exact bt_tuple | exact bt_list | exact bt_zip | exact bt_int)
local macro_rules | `(tactic| k_clsL) => `(tactic| with_reducible first
  | ((show wpAny _ _ (eval (Expr.Name _ _) _) _ _ _); first
    | (refine ev_loc (by assumption) (by assumption) ?_; keq_rows)
    | refine ev_cell (by assumption) (by assumption) (by k_dflt rfl) (by k_mem) (by assumption) (by kat_tups) ?_
    | refine ev_glob (by assumption) (by assumption) (by k_subL) (by kat_tups) ?_
    | refine ev_bi (by assumption) (by assumption) (by k_subL) (by k_subL) (by k_subL) (by kat_tups) ?_)
  | ((show wpAny _ _ (eval (Expr.Constant _ _ _) _) _ _ _); first
    | (refine ev_int (by assumption) ?_; intro s' tk' S')
    | (refine ev_str (by assumption) ?_; intro s' tk' S')
    | refine PyProof.Rows.Constant_bool ?_)
  | ((show wpAny _ _ (eval (Expr.Attribute _ _ _) _) _ _ _); refine Attribute_any_ ?_ (by k_dflt rfl))
  | ((show wpAny _ _ (eval (Expr.Call (Expr.Name _ _) [_] [] _) _) _ _ _); first
    | refine callT (x := Str.ofString "tuple") (by assumption) (by assumption) (gn_tuple _) bt_tuple bt_ne_tuple (by kat_tups) ?_ (by k_dflt rfl)
    | refine callT (x := Str.ofString "list") (by assumption) (by assumption) (gn_list _) bt_list bt_ne_list (by kat_tups) ?_ (by k_dflt rfl)
    | refine callB1 (x := Str.ofString "len") (by assumption) (by assumption) (gn_len _) bt_len bt_ne_len (by kat_tups) ?_ (by k_dflt rfl)
    | refine callB1 (x := Str.ofString "abs") (by assumption) (by assumption) (gn_abs _) bt_abs bt_ne_abs (by kat_tups) ?_ (by k_dflt rfl)
    | refine callB1 (x := Str.ofString "sum") (by assumption) (by assumption) (gn_sum _) bt_sum bt_ne_sum (by kat_tups) ?_ (by k_dflt rfl)
    | refine call1 (by assumption) (by assumption) (by k_subL) (by k_subL) (by kat_tups) ?_ (by k_dflt rfl)
    | refine callB1 (by assumption) (by assumption) (by k_subL) (by k_subL) (by k_subL) (by kat_tups) ?_ (by k_dflt rfl)
    | refine callT (by assumption) (by assumption) (by k_subL) (by k_subL) (by k_subL) (by kat_tups) ?_ (by k_dflt rfl))
  | ((show wpAny _ _ (eval (Expr.Call (Expr.Name _ _) [_, _] [] _) _) _ _ _); first
    | refine callT2 (x := Str.ofString "zip") (by assumption) (by assumption) (gn_zip _) bt_zip bt_ne_zip (by kat_tups) ?_ (by k_dflt rfl) (by k_dflt rfl)
    | refine call2 (by assumption) (by assumption) (by k_subL) (by k_subL) (by kat_tups) ?_ (by k_dflt rfl) (by k_dflt rfl)
    | refine callB2 (by assumption) (by assumption) (by k_subL) (by k_subL) (by k_subL) (by kat_tups) ?_ (by k_dflt rfl) (by k_dflt rfl)
    | refine callT2 (by assumption) (by assumption) (by k_subL) (by k_subL) (by k_subL) (by kat_tups) ?_ (by k_dflt rfl) (by k_dflt rfl))
  | ((show wpAny _ _ (eval (Expr.Call (Expr.Name _ _) [_, _, _] [] _) _) _ _ _); refine call3 (by assumption) (by assumption) (by k_subL) (by k_subL) (by kat_tups) ?_ (by k_dflt rfl) (by k_dflt rfl) (by k_dflt rfl))
  | ((show wpAny _ _ (eval (Expr.Call (Expr.Name _ _) [_, _, _, _] [] _) _) _ _ _); refine call4 (by assumption) (by assumption) (by k_subL) (by k_subL) (by kat_tups) ?_ (by k_dflt rfl) (by k_dflt rfl) (by k_dflt rfl) (by k_dflt rfl))
  | ((show wpAny _ _ (eval (Expr.Call (Expr.Attribute _ _ _) _ [] _) _) _ _ _); refine MethodCall_ ?_ (by k_dflt rfl))
  | ((show wpAny _ _ (eval (Expr.BoolOp _ _ _) _) _ _ _); first | refine BoolOp_and ?_ | refine BoolOp_or ?_ | refine BoolOp_one ?_)
  | ((show wpAny _ _ (eval (Expr.Compare _ _ _ _) _) _ _ _); refine wpAny_Compare1 ?_ (by k_dflt rfl))
  | ((show wpAny _ _ (eval (Expr.UnaryOp _ _ _) _) _ _ _); refine UnaryOp_ ?_)
  | ((show wpAny _ _ (eval (Expr.Subscript _ _ _) _) _ _ _); refine Subscript_ ?_)
  | ((show wpAny _ _ (eval (Expr.Tuple _ _ _) _) _ _ _); refine Tuple_ ?_)
  | ((show wpAny _ _ (eval (Expr.List _ _ ) _) _ _ _); refine List_ ?_)
  | ((show wpAny _ _ (eval (Expr.BinOp _ _ _ _) _) _ _ _); refine wpAny_BinOp ?_)
  | ((show wpAny _ _ (eval (Expr.Slice _ _ _ _) _) _ _ _); refine wpAny_Slice ?_)
  | ((show wpAny _ _ (eval (Expr.IfExp _ _ _ _) _) _ _ _); refine IfExp_ ?_)
  | ((show wpAny _ _ (exec _ _) _ _ _); first
    | refine wpAny_If ?_
    | refine wpAny_Assign_Name ?_ (by k_dflt rfl)
    | refine wpAny_Return_some ?_
    | refine wpAny_Assign_Subscript ?_ (by k_dflt rfl)
    | refine wpAny_Expr_any ?_ (by k_dflt rfl) (by k_dflt rfl)
    | refine plainObj_wpAny_Assign_Attribute ?_ (by k_dflt rfl))
  | ((show wpAny _ _ (compareOp _ _ _) _ _ _); first
    | refine eq_int_ff (by k_dflt rfl) ?_
    | refine eq_int_tt (by k_dflt rfl) ?_
    | refine in_tup_ff (by assumption) (by k_mem) (.cons _ _ (.cons _ _ .nil)) (by k_dflt rfl) ?_
    | refine in_tup_tt (by assumption) (by k_mem) (.cons _ _ (.cons _ _ .nil)) (by k_dflt rfl) ?_
    | refine wpAny_is_ref_self ?_
    | refine is_int_ref ?_
    | refine PySem.P.lt_int ?_
    | refine PySem.P.gt_int ?_
    | refine eq_int ?_
    | refine ne_int_ff (by k_dflt rfl) ?_
    | refine ne_int_tt (by k_dflt rfl) ?_)
  | ((show wpAny _ _ (getAttr _ _ _) _ _ _); first
    | (refine at_F_read (by assumption) (by assumption) (by k_places) ?_; intro s' S')
    | (refine at_F_set (by assumption) (by assumption) (by k_places) ?_; intro s' S')
    | (refine at_F_called (by assumption) (by assumption) (by k_places) ?_; intro s' S')
    | (refine at_F_bound (by assumption) (by assumption) (by k_places) ?_; intro s' S')
    | (refine at_F_caught (by assumption) (by assumption) (by k_places) ?_; intro s' S')
    | (refine at_F_parent (by assumption) (by assumption) (by k_places) ?_; intro s' S')
    | (refine at_F_lets (by assumption) (by assumption) (by k_places) ?_; intro s' S')
    | (refine at_F_inner (by assumption) (by assumption) (by k_places) ?_; intro s' S')
    | (refine at_F_read_globals (by assumption) (by assumption) (by k_places) ?_; intro s' S')
    | (refine at_F_set_globals (by assumption) (by assumption) (by k_places) ?_; intro s' S')
    | (refine at_kind (by assumption) (by assumption) (by k_places) (by first | assumption | exact rfl) ?_; intro s' tk' S')
    | (refine at_setl_value (by assumption) (by assumption) (by k_places) ?_; intro s' v' S' hv')
    | (refine at_call_operator (by assumption) (by assumption) (by k_places) ?_; intro s' v' S' hv')
    | (refine at_call_operands (by assumption) (by assumption) (by k_places) ?_; intro s' l' vs' e' S' hl' hvs')
    | (refine at_seq_items (by assumption) (by assumption) (by k_places) ?_; intro s' l' vs' e' S' hl' hvs')
    | (refine at_lam_body (by assumption) (by assumption) (by k_places) ?_; intro s' v' S' hv')
    | (refine at_setl_number (by assumption) (by assumption) (by k_places) ?_; intro s' tk' S')
    | (refine at_cint (by assumption) (by assumption) (by k_places) ?_; intro s' tk' S')
    | (refine at_cun (by assumption) (by assumption) (by k_places) ?_; intro s' S')
    | (refine at_loc (by assumption) (by assumption) (by k_places) ?_; intro s' tk' S')
    | (refine at_glob (by assumption) (by assumption) (by k_places) ?_; intro s' tk' S')
    | (refine at_lam_label (by assumption) (by assumption) (by k_places) ?_; intro s' tk' S')
    | (refine at_lam_rest (by assumption) (by assumption) (by k_places) ?_; intro s' tk' S')
    | (refine at_lam_params (by assumption) (by assumption) (by k_places) ?_; intro s' pl' vs' e' S' hp' hi')
    | (refine at_fix_numbers (by assumption) (by assumption) (by k_places) ?_; intro s' pl' vs' e' S' hp' hi'))
  | ((show wpAny _ _ (getMethod _ _ _) _ _ _); first
    | refine lmeth (by assumption) (by k_mem) PySem.F.slot_list_pop PySem.F.type_list_pop ?_
    | refine lmeth (by assumption) (by k_mem) PySem.F.slot_list_append PySem.F.type_list_append ?_
    | refine lmeth (by assumption) (by k_mem) PySem.F.slot_list_insert PySem.F.type_list_insert ?_)
  | ((show wpAny _ _ (callWith _ _ _ _ _) _ _ _); first
    | refine callWith_method1 ?_ (by k_dflt rfl) (by k_dflt rfl)
    | refine callWith_method0 ?_)
  | ((show wpAny _ _ (call _ _) _ _ _); first
    | (refine tuple_of (by assumption) (by k_mem) (by k_ownIn) ?_; intro D' s' S')
    | (refine isi_int (by assumption) (by k_mem) ?_; intro s' S')
    | (refine isi_un (by assumption) (by k_mem) ?_; intro s' S')
    | (refine isi_pair (by assumption) ?_; intro s' S')
    | (refine rp_int (by assumption) ?_; intro s' tk' S')
    | (refine intOfB (by assumption) ?_; intro s' tk' S'))
  | ((show wpAny _ _ (PySem.isTrue _ _ _) _ _ _); first
    | refine wpAny_isTrue_Compare1 ?_ (by k_dflt rfl)
    | refine isTrue_and ?_
    | refine isTrue_and_nil ?_
    | refine isTrue_or ?_
    | refine isTrue_or_nil ?_
    | refine isTrue_not ?_
    | refine isTrue_plain ?_ (by k_dflt rfl))
  | ((show wpAny _ _ (binaryOp _ _ _) _ _ _); first
    | (refine addS (by assumption) ?_; intro s' tk' S')
    | (refine subS (by assumption) ?_; intro s' tk' S'))
  | ((show wpAny _ _ (unaryOp _ _) _ _ _); refine negS (by assumption) ?_; intro s' tk' S')
  | ((show wpAny _ _ (subscriptTail _ _ _ _) _ _ _); first
    | refine tup_item (by assumption) (by k_mem) (by decide) (by decide) (by k_dflt rfl) ?_ (by k_dflt rfl)
    | refine own0 (by assumption) (by decide) (by decide) (by k_dflt rfl) ?_ (by k_dflt rfl))
  | ((show wpAny _ _ (PySem.setItem _ _ _) _ _ _); first
    | (refine set0 (by assumption) ?_; intro s' S')
    | (refine set1 (by assumption) ?_; intro s' S'))
  | ((show _ ∧ wpAny _ _ _ _ _ _); refine And.intro (St.kin (by assumption)) ?_)
  | ((show wpAny _ _ (PySem.evalPart _ _) _ _ _); first | refine evalPart_none_step ?_ | refine evalPart_some_step ?_)
  | refine wpAny_execs_cons ?_
  | refine sp1 ?_ (by k_dflt rfl)
  | refine sp0 ?_
  | refine wpAny_truthy_bool ?_
  | refine ite_ff ?_
  | refine ite_tt ?_
  | refine ite_dt (by k_dflt rfl) ?_
  | refine ite_df (by k_dflt rfl) ?_
  | (refine st_loc (by assumption) (by assumption) ?_; keq_hits; intro s' S')
  | (refine nl_flag (by assumption) (by assumption) ?_ (by k_allIn); intro l' s' S')
  | (refine nl (by assumption) ?_ (by k_allIn); intro l' s' S')
  | (refine nt (by assumption) ?_ (by k_allIn); intro l' s' S')
  | refine wpAny_execs_nil ?_
  )
local macro_rules | `(tactic| k_offL) => `(tactic| repeat ((fail_if_success (with_reducible first | (show wpAny _ _ (eval (Expr.ListComp _ _ _ _) _) _ _ _) | (show wpAny _ _ (exec (Stmt.Assign _ (Expr.ListComp _ _ _ _) _) _) _ _ _) | (show wpAny _ _ (exec (Stmt.Assign (Expr.Tuple _ _ _ :: _) _ _) _) _ _ _) | (show wpAny _ _ (exec (Stmt.While _ _ _ _) _) _ _ _) | (show wpAny _ _ (exec (Stmt.For _ _ _ _ _) _) _ _ _) | (show wpAny _ _ (call (Value.ref _) _) _ _ _) | (show wpAny _ _ (subscriptTail _ (Expr.Slice _ _ _ _) _ _) _ _ _) | (show wpAny _ _ (subscriptTail _ _ (Value.ref _) (Value.ref _)) _ _ _) | (show wpAny _ _ (call (Value.type "zip") _) _ _ _) | (show wpAny _ _ (call (Value.type "list") _) _ _ _) | (show wpAny _ _ (call (Value.type "tuple") _) _ _ _) | (show wpAny _ _ (call (Value.builtin "len") _) _ _ _) | (show wpAny _ _ (unpackItems _ _ _) _ _ _) | (show wpAny _ _ (assignInOrder _ _) _ _ _) | (show wpAny _ _ (assign _ _ _) _ _ _) | (show wpAny _ _ (binaryOp _ (Value.ref _) _) _ _ _) | (show wpAny _ _ (compareOp _ (Value.ref _) _) _ _ _) | (show wpAny _ _ (subscriptTail _ _ _ (Value.int (Nat.cast _) _)) _ _ _) | (show wpAny _ _ (compareOp CmpOp.In _ (Value.ref _)) _ _ _) | (show wpAny _ _ (pyIter _) _ _ _) | (show Ends _ _ _ _ _ _) )); k_clsL))

theorem due1 {w : World} {P : Led} {W : T} {wv : Value} {cn : Int → Nat} (t : T) (v : Value) (hv : DatIn P v t.tell) (hwv : DatIn P wv W.tell) (hcn : ∀ n, cn n = (setn W).count n) (hW : W.size ≤ 4000) (hok : OkT cn t)
    (IH : ∀ d ∈ t.kids, ∀ v P, DatIn P v d.tell → DatIn P wv W.tell → Pure w (4 * d.dep + (2 * W.dep + 20)) P (call (.ref 565) [v, wv]) fun P' r => DatIn P' r (fixT cn d).tell) :
    Pure w (4 * t.dep + (2 * W.dep + 20)) P (call (.ref 565) [v, wv]) fun P' r => DatIn P' r (fixT cn t).tell := by
  intro c m own s Q E S hdp hu ret
  have X := S.X
  obtain ⟨b, e, kt, vo, o, eo, k, ek, kv, rfl, hb, ho, hvo, hk, hkv⟩ := tell_in hv
  refine wpAny_call ?_
  refine enterC2 (K := hd.heap_39 _) (vals := [some (.ref b)]) (clf := fun L' => [(Str.ofString "_law_names", L' + 1 + 1), (Str.ofString "_law_whole", L' + 1)]) (Out := fun cs P' r => cs = own ∧ DatIn P' r (fixT cn t).tell) rfl S (by k_is) (by k_is) (by omega) (by exact BindsTo.of_eq rfl) (by kernel_rfl) (by decide +kernel) (by kernel_rfl) (by exact fun _ => rfl) (fun L' => by simp) ?a4 ?a5 ?a6
  case a4 =>
    intro L'
    dsimp only [List.map, List.zip, List.zipWith]
    rw [bindL_loc (by kernel_rfl), bindL_cell (by kernel_rfl), bindL_nil]
    funext y
    simp only [asg, asg_nil]
  case a6 =>
    rintro r own' P' s' S' hc hs ⟨rfl, ho⟩
    exact ret r P' s' S' hs ho
  intro c' s' cc gN hd' hu' hcc S'
  obtain ⟨oN, oW, rfl, hcN, hcW⟩ := hcc.two
  have hN0 : oN.data = .cell none := hcN.trans (by exact rfl)
  have hWd : oW.data = .cell (some wv) := hcW.trans (by exact rfl)
  clear hcN hcW hcc ret S
  have e0 : t.size ≤ 1990 := hok.sz
  dsimp only [List.cons_append, List.nil_append] at S'
  have S2 := (S'.perm (List.Perm.swap _ _ _)).settle
  clear S'
  have e2 : ∀ d ∈ t.kids, 4 * d.dep + (2 * W.dep + 20) + 4 ≤ 4 * t.dep + (2 * W.dep + 20) := fun d hd => by have := dep_kid hd; omega
  have e3 : ∀ d ∈ t.kids, c'.A.depth + (4 * d.dep + (2 * W.dep + 20)) < recursionLimit := fun d hd => by have := e2 d hd; omega
  have e4 : ∀ d ∈ t.kids, c'.A.units + 8 * (4 * d.dep + (2 * W.dep + 20)) < cLine := fun d hd => by have := e2 d hd; omega
  have hkl : kv.length = t.kids.length := by rw [dall_len hkv, tells_map, List.length_map]
  have hkz := len_kids t
  refine wpAny_execs_cons ?_
  refine Assign_Tuple_swapped ?_ (by k_dflt rfl) (by k_dflt rfl)
  k_offL
  refine comp_evalS (by assumption) (by decide) (by k_dflt rfl) (by decide) (by k_dflt rfl) (by decide) (by k_dflt exact fun _ => rfl) ?_
  k_offL
  refine compT (vs := kv) (by assumption) (by k_mem) (by omega) rfl (by kernel_rfl) (fun i own₁ P₁ ys => own₁ = (c'.L + 1 + 1, oN) :: own ∧ (∀ p ∈ (c'.L + 1, oW) :: P, p ∈ P₁) ∧ DatAll P₁ ys (tells ((t.kids.take i).map (fixT cn)))) ⟨rfl, fun _ h => h, .nil⟩ ?_ ?_
  ·
    rintro i own₁ P₁ P₁' tl C oC m₂ ys s₂ E' hi ⟨rfl, hP2, hys⟩ hG hC htl S hs
    obtain ⟨v, hv1⟩ : ∃ v, kv[i]? = some v := ⟨kv[i], by simp [hi]⟩
    obtain ⟨d, hd, hvd⟩ := dall_get hkv hv1
    obtain ⟨kt, hkt, rfl⟩ := tells_get hd
    rw [hv1] at hG
    have to2 : ∀ p ∈ P, p ∈ P₁' := fun p hp => hs _ (hP2 _ (.tail _ hp))
    show wpAny _ _ _ _ _ _
    refine ccall2 (x := Str.ofString "_law_due_of") S (g_law_due_of _) (kp_law_due_of _) ?_ rfl rfl (by kernel_rfl) (by k_dflt rfl) (by k_dflt rfl)
    refine cv_loc S (List.mem_append_right _ htl) hC hG ?_ rfl (by kernel_rfl)
    refine cv_cell S (by k_dflt rfl) (hs _ (hP2 _ (.head _))) hWd ?_ rfl (by kernel_rfl)
    refine ⟨S.kin, ?_⟩
    refine useP (IH kt (List.mem_of_getElem? hkt) v _ (hvd.mono to2) (hwv.mono to2)) S (e3 _ (List.mem_of_getElem? hkt)) (e4 _ (List.mem_of_getElem? hkt)) ?_
    rintro r P3 s3 S3 hs3 hr
    refine ⟨_, P3, S3, hs3, rfl, fun p hp => hs3 _ (hs _ (hP2 _ hp)), ?_⟩
    rw [List.take_add_one, hkt, List.map_append, tells_append]
    exact (hys.mono fun p hp => hs3 _ (hs _ hp)).append (.cons hr .nil)
  rintro own' P2 ys D ⟨rfl, hP2, hys⟩ s2 S3
  rw [hkl, List.take_length] at hys
  k_offL
  have hkl2 : ys.length = t.kids.length := by rw [dall_len hys, tells_map, List.length_map, List.length_map]
  refine tuple_of (by assumption) (.head _) (by omega) ?_
  intro Lp s3 S4
  k_offL
  refine unp3 (by assumption) (by k_mem) ?_
  intro s4 S5
  refine assignInOrder_cons (wpAny_bindName ?_)
  k_offL
  refine assignInOrder_cons (wpAny_bindName ?_)
  k_offL
  refine assignInOrder_cons (wpAny_bindName ?_)
  k_offL
  refine assignInOrder_nil ?_
  k_offL
  have toP2 : ∀ p ∈ P, p ∈ P2 := fun p hp => hP2 _ (.tail _ hp)
  have e6 : c'.A.depth + (2 * W.dep + 10) < recursionLimit := by omega
  have e5 : c'.A.units + 8 * (4 * t.dep + (2 * W.dep + 15)) < cLine := by omega
  have fin : ∀ (P' : Led) (s' : Shared) (m' : Str → Option Value) (a : Addr) (e : Nat), St w c' m' ((c'.L + 1 + 1, oN) :: own) P' s' → (∀ p ∈ P2, p ∈ P') → (a, tupOf [.int t.kind kt, .ref o, .ref Lp] e) ∈ P' → (Lp, tupOf ys 0) ∈ P' → turn cn (t.wk (t.kids.map (fixT cn))) = t.wk (t.kids.map (fixT cn)) →
      Ends w c' P (fun cs P' r => cs.map (·.1) = own.map (·.1) ∧ cs = own ∧ DatIn P' r (fixT cn t).tell) (.ref a) s' := by
    intro P' s' m' a e S hs ha hL hT
    refine ⟨m', own, [], _, by rw [List.append_nil]; exact S.settle, fun p hp => .tail _ (hs _ (toP2 _ hp)), rfl, rfl, ?_⟩
    rw [fixT_eq cn t hok.noFix, hT, wk_tell t hok.noFix]
    exact .tuple (.tail _ ha) (.cons (.int _ _) (.cons (.tuple (.tail _ (hs _ (toP2 _ ho))) (hvo.mono fun p hp => .tail _ (hs _ (toP2 _ hp)))) (.cons (.tuple (.tail _ hL) (hys.mono fun p hp => .tail _ (hs _ hp))) .nil)))
  clear e2 e3 e4 IH hdp hu hd' hu'
  have hs2 : ∀ p ∈ P2, p ∈ (D, PySem.W.listOf ys.toArray ys.length) :: P2 := fun p hp => .tail _ hp
  by_cases h8 : t.kind = 8
  rotate_left
  · refine ne_int_tt (by simpa using h8) ?_
    k_offL
    exact fin _ _ _ _ _ (by assumption) (by k_places) (by k_mem) (by k_mem) (turn_not8 (by rw [wk_kind]; exact h8))
  obtain ⟨f, xs, rfl⟩ := kind8 h8
  refine ne_int_ff (by exact rfl) ?_
  dsimp only [T.kids, List.map_cons] at hys
  obtain ⟨y0, yr, rfl, hy0, hyr⟩ := dall_cons hys
  rw [← fixTs_map] at hyr
  rw [fixTs_map] at hyr
  obtain ⟨b0, eb0, kt0, vo0, o0, eo0, k0, ek0, kv0, rfl, hb0, ho0, hvo0, hk0, hkv0⟩ := tell_in hy0
  generalize hgf : fixT cn f = f' at *
  k_offL
  by_cases h7 : f'.kind = 7
  rotate_left
  · refine ne_int_tt (by simpa using h7) ?_
    k_offL
    exact fin _ _ _ _ _ (by assumption) (by k_places) (by k_mem) (by k_mem) (by show turn cn (.call (fixT cn f) _) = .call (fixT cn f) _; rw [hgf]; exact turn_not7 h7)
  obtain ⟨l, ps, bb, rfl⟩ := kind7 h7
  refine ne_int_ff (by exact rfl) ?_
  obtain ⟨_, _, rfl, hd1, hd2⟩ := dall_cons hvo0
  obtain ⟨tl, rfl⟩ := din_int hd1
  obtain ⟨_, _, rfl, hd3, hd4⟩ := dall_cons hd2
  obtain ⟨pl, pv, epl, rfl, hpl, hpv⟩ := din_tup hd3
  obtain ⟨_, _, rfl, hd5, hd6⟩ := dall_cons hd4
  obtain ⟨tr, rfl⟩ := din_int hd5
  cases dall_nil hd6
  obtain ⟨_, _, rfl, hbb, hd7⟩ := dall_cons hkv0
  cases dall_nil hd7
  clear hd1 hd2 hd3 hd4 hd5 hd6 hd7
  have hpi := dall_ints hpv
  have hpn := hpi.length
  have hyn : yr.length = xs.length := by rw [dall_len hyr, tells_map, List.length_map, List.length_map]
  have hxz : xs.length ≤ 1990 := by
    have := len_sizes xs
    simp only [T.size] at e0; omega
  have hpz : ps.length ≤ 4000 := by
    have h1 := size_fixT cn f
    rw [hgf] at h1
    simp only [T.size] at h1 e0; omega
  k_offL
  refine len_T (by assumption) (by k_mem) (by omega) ?_
  intro s6 tk6 S6
  k_offL
  refine len_T (by assumption) (by k_mem) (by rw [List.length_cons]; omega) ?_
  intro s7 tk7 S7
  k_offL
  have hlen2 : (((Value.ref b0 :: yr).length : Nat) : Int) - 1 = (xs.length : Int) := by rw [List.length_cons]; omega
  rw [hlen2]
  by_cases hl : ps.length = xs.length
  rotate_left
  · refine ne_int_tt (by simp; omega) ?_
    k_offL
    exact fin _ _ _ _ _ (by assumption) (by k_places) (by k_mem) (by k_mem) (by show turn cn (.call (fixT cn f) _) = .call (fixT cn f) _; rw [hgf]; exact isLet_false (by simp [isLet, hl]))
  refine ne_int_ff (by simp; omega) ?_
  obtain ⟨b1, eb1, kt1, vo1, o1, eo1, k1, ek1, kv1, rfl, hb1, ho1, hvo1, hk1, hkv1⟩ := tell_in hbb
  k_offL
  by_cases h9 : bb.kind = 9
  rotate_left
  · refine ne_int_tt (by simpa using h9) ?_
    k_offL
    exact fin _ _ _ _ _ (by assumption) (by k_places) (by k_mem) (by k_mem) (by show turn cn (.call (fixT cn f) _) = .call (fixT cn f) _; rw [hgf]; exact turn_other h9)
  obtain ⟨items, rfl⟩ := kind9 h9
  refine ne_int_ff (by exact rfl) ?_
  k_offL
  refine Assign_Tuple ?_ (by k_dflt rfl) (by k_dflt rfl)
  k_offL
  refine asgF_triple (by assumption) gN (hs2 _ ho0 |> fun h => List.mem_cons_of_mem _ (List.mem_cons_of_mem _ h)) ?_
  keq_hits
  keq_hits
  keq_hits
  intro s8 S8
  k_offL
  refine comp_assignS (by assumption) gN (by k_dflt rfl) (by decide) (by k_dflt rfl) (by decide) (by k_dflt rfl) (by decide) (by k_dflt exact fun _ => rfl) ?_
  repeat ((fail_if_success show wpAny _ _ (subscriptTail _ (Expr.Slice _ _ _ _) _ _) _ _ _); k_clsL)
  refine tup_from (k := 1) (by assumption) (by k_mem) (by decide) (by rw [List.length_cons]; omega) (by rw [List.length_cons]; omega) ?_ (by k_dflt rfl) (by k_dflt exact fun _ => rfl)
  intro Ds s9 S9
  rw [show List.drop 1 (Value.ref b0 :: yr) = yr from rfl] at S9
  obtain ⟨P3, hP3⟩ : ∃ P3 : Led, P3 = (Lp, tupOf (Value.ref b0 :: yr) 0) :: P2 := ⟨_, rfl⟩
  have i3 : ∀ p ∈ P2, p ∈ P3 := fun p hp => by rw [hP3]; exact .tail _ hp
  have i4 : (Lp, tupOf (Value.ref b0 :: yr) 0) ∈ P3 := by rw [hP3]; exact .head _
  refine compZT (by assumption) (List.mem_cons_of_mem _ (List.mem_cons_of_mem _ (List.mem_cons_of_mem _ (hs2 _ hpl)))) (.head _) (by omega) rfl (by kernel_rfl) (by kernel_rfl) (by decide) (fun i own₁ P₁ us => own₁ = (c'.L + 1 + 1, oN) :: own ∧ (∀ p ∈ P3, p ∈ P₁) ∧ IntsAre us (lateOf (ps.take i) ((xs.map (fixT cn)).take i))) ⟨rfl, fun p hp => by rw [hP3] at hp; rcases List.mem_cons.mp hp with rfl | hp <;> k_mem, .nil⟩ ?_ ?_
  ·
    rintro i own₁ P₁ P₁' tl' C oC m₂ us s₂ E' hi ⟨rfl, hPi, hus⟩ ⟨va, vb, hva, hvb, hma, hmb⟩ hC htl S hs
    obtain ⟨n, u, rfl, hn⟩ := hpi.at _ _ hva
    obtain ⟨d, hd, hvd⟩ := dall_get hyr hvb
    obtain ⟨x, hx, rfl⟩ := tells_get hd
    have to3 : ∀ p ∈ P2, p ∈ P₁' := fun p hp => hs _ (hPi _ (i3 _ hp))
    have hxm := List.mem_of_getElem? hx
    obtain ⟨x0, hx0, hx1⟩ := List.mem_map.mp hxm
    have hxd : 2 * x.dep ≤ 4 * (T.call f xs).dep := by
      have h1 := dep_fixT cn x0
      have h2 : x0.dep < (T.call f xs).dep := dep_kid (List.mem_cons_of_mem _ hx0)
      rw [hx1] at h1; omega
    have hlt : lateOf (ps.take (i + 1)) ((xs.map (fixT cn)).take (i + 1)) = lateOf (ps.take i) ((xs.map (fixT cn)).take i) ++ (if x.isUn then [n] else []) := by
      rw [List.take_add_one, List.take_add_one, hn, hx, Option.toList_some, Option.toList_some, lateOf_snoc (by rw [List.length_take, List.length_take, List.length_map, hl])]
    show wpAny _ _ _ _ _ _
    refine wpAny_isTrue_Compare1 ?_ (by k_dflt rfl)
    refine cv_loc S (List.mem_append_right _ htl) hC hmb ?_ rfl (by kernel_rfl)
    refine Tuple_ ?_
    k_offL
    refine cv_glob S (g_CONST _) ?_ rfl rfl (by kernel_rfl)
    k_offL
    refine eqDat (P₂ := _) (4 * (T.call f xs).dep + 2) 3 (by assumption) (hvd.mono to3) (by k_places) (.tuple (.head _) (.cons (.int _ _) (.cons (.tuple (.tail _ (.tail _ (.head _))) (.cons (.str _ _) .nil)) (.cons (.tuple (.tail _ (.head _)) .nil) .nil)))) (fun _ h => h) (kqd_tell x _ hxd) (by decide +kernel) (by omega) ?_
    intro bb hbb
    rw [tell_un] at hbb
    k_offL
    refine ifB (fun hb => ?_) (fun hb => ?_)
    · rw [if_pos (hbb.mp hb)] at hlt
      refine cv_loc (by assumption) (List.mem_append_right _ htl) hC hma ?_ rfl (by kernel_rfl)
      refine ⟨_, _, (by assumption), ?_, rfl, ?_, ?_⟩
      · k_places
      · intro p hp
        have := hs _ (hPi _ hp)
        k_mem
      · rw [hlt]; exact hus.append (.cons _ _ .nil)
    · rw [if_neg (fun h => by rw [hbb.mpr h] at hb; cases hb), List.append_nil] at hlt
      refine ⟨_, _, (by assumption), ?_, rfl, ?_, ?_⟩
      · k_places
      · intro p hp
        have := hs _ (hPi _ hp)
        k_mem
      · rw [hlt]; simpa using hus
  rintro own' P4 us D4 ⟨rfl, hP4, hus⟩
  have hmin : min pv.length yr.length = min ps.length (xs.map (fixT cn)).length := by rw [hpn, hyn, List.length_map]
  have hLo : lateOf (ps.take (min pv.length yr.length)) ((xs.map (fixT cn)).take (min pv.length yr.length)) = lateOf ps (xs.map (fixT cn)) := by
    rw [hmin]; unfold lateOf; rw [zip_min]
  rw [hLo] at hus
  keq_hits
  intro s10 S10
  dsimp only
  k_offL
  refine Assign_Tuple_swapped ?_ (by k_dflt rfl) (by k_dflt rfl)
  have flag : OwnFlag := ⟨trivial⟩
  k_offL
  clear flag
  refine unp3 (by assumption) (by k_mem) ?_
  intro s11 S11
  refine assignInOrder_cons (wpAny_bindName ?_)
  k_offL
  refine assignInOrder_cons (wpAny_bindName ?_)
  k_offL
  refine assignInOrder_cons (wpAny_bindName ?_)
  k_offL
  refine assignInOrder_nil ?_
  k_offL
  rename_i Tk _ _ Lf _ _ _ tk0 _ lt _ _ _ _ _ _ _ S12
  have hk1n : kv1.length = items.length := by rw [dall_len hkv1]; show (tells items).length = _; rw [tells_map, List.length_map]
  have hil : items.length ≤ 4000 := by
    have h1 := size_fixT cn f
    have h2 := len_sizes items
    rw [hgf] at h1
    simp only [T.size] at h1 e0; omega
  generalize hLt : lateOf ps (xs.map (fixT cn)) = late at hus
  obtain ⟨P5, hP5⟩ : ∃ P5 : Led, P5 = (lt, tupOf [Value.ref Tk, Value.ref Lf, Value.int 0 tk0] 0) :: (D4, LCg.lst us) :: P4 := ⟨_, rfl⟩
  rw [← hP5] at S12
  have i5 : ∀ p ∈ P3, p ∈ P5 := fun p hp => by rw [hP5]; exact .tail _ (.tail _ (hP4 _ hp))
  have hD4 : (D4, listOf us.toArray us.length) ∈ P5 := by rw [hP5]; exact .tail _ (.head _)
  clear hlen2 S10 S11 S9 S8 S7 S6 S5 S4 S3 S2
  refine cutN gN (fun ns fl s' => fl = .next ∧ ∃ tki it1 it2 tv lv et el P6, (∀ p ∈ P5, p ∈ P6) ∧ St w c' (asg ns [some (.ref b), none, some (.int (T.call f xs).kind kt), some (.ref o), some (.ref Lp), some (.int l tl), some (.ref pl), some (.int (-1) tr), some (.ref k1), it1, some (.ref D4), some (.ref Tk), some (.ref Lf), some (.int (((early items).length : Nat) : Int) tki), it2]) ((Lf, listOf (lv : List Value).toArray el) :: (Tk, listOf (tv : List Value).toArray et) :: (c'.L + 1 + 1, oN) :: own) P6 s' ∧
    All2 (TkR P6) tv ((early items).filter (tkn cn late)) ∧ All2 (fun v t => DatIn P6 v t.tell) lv ((early items).filter fun t => !tkn cn late t)) ?_ ?_
  ·
    refine whileR (fun k s => ∃ i tki it1 it2 tv lv et el P6, k = items.length - i ∧ i ≤ (early items).length ∧ (∀ p ∈ P5, p ∈ P6) ∧ St w c' (asg _ [some (.ref b), none, some (.int (T.call f xs).kind kt), some (.ref o), some (.ref Lp), some (.int l tl), some (.ref pl), some (.int (-1) tr), some (.ref k1), it1, some (.ref D4), some (.ref Tk), some (.ref Lf), some (.int ((i : Nat) : Int) tki), it2]) ((Lf, listOf (lv : List Value).toArray el) :: (Tk, listOf (tv : List Value).toArray et) :: (c'.L + 1 + 1, oN) :: own) P6 s ∧
      All2 (TkR P6) tv ((items.take i).filter (tkn cn late)) ∧ All2 (fun v t => DatIn P6 v t.tell) lv ((items.take i).filter fun t => !tkn cn late t) ∧ tv.length ≤ i ∧ lv.length ≤ i) ?_ items.length _
      ⟨0, tk0, none, none, [], [], 0, 0, P5, rfl, Nat.zero_le _, fun _ h => h, St.pad 1 (vs := [some (.ref b), none, some (.int (T.call f xs).kind kt), some (.ref o), some (.ref Lp), some (.int l tl), some (.ref pl), some (.int (-1) tr), some (.ref k1), none, some (.ref D4), some (.ref Tk), some (.ref Lf), some (.int 0 tk0)]) S12, .nil, .nil, Nat.le_refl _, Nat.le_refl _⟩
    clear S12
    rintro k s3 ⟨i, tki, it1, it2, tv, lv, et, el, P6, rfl, hie, hP6, S13, htv, hlv, htn, hln⟩
    have to6 : ∀ p ∈ P2, p ∈ P6 := fun p hp => hP6 _ (i5 _ (i3 _ hp))
    have hk1' := to6 _ hk1
    k_offL
    refine len_T (by assumption) hk1' (by omega) ?_
    intro s4 tk4 S4
    k_offL
    refine ifB (fun hb => ?_) (fun hb => ?_)
    rotate_left
    · have hei := early_end hie (by have := of_decide_eq_false hb; omega)
      k_offL
      exact ⟨rfl, _, _, _, _, _, _, _, P6, hP6, by rw [← hei]; assumption, by rw [hei, ← early_take] at htv; exact htv, by rw [hei, ← early_take] at hlv; exact hlv⟩
    have hilt : (i : Int) < (items.length : Int) - 1 := by have := of_decide_eq_true hb; omega
    obtain ⟨v, hv1⟩ : ∃ v, kv1[i]? = some v := ⟨kv1[i]'(by omega), by simp⟩
    obtain ⟨d, hd, hvd⟩ := dall_get hkv1 hv1
    obtain ⟨t, ht, rfl⟩ := tells_get (ts := items) hd
    obtain ⟨br, er, ktr, vor, or', eor, kr, ekr, kvr, rfl, hbr, hor, hvor, hkr, hkvr⟩ := tell_in hvd
    have hbr' := to6 _ hbr
    have hor' := to6 _ hor
    have hkr' := to6 _ hkr
    k_offL
    refine tup_item (by assumption) hk1' (by omega) (by omega) (by simpa using hv1) ?_ (by k_dflt rfl)
    k_offL
    refine ifB (fun hb2 => ?_) (fun hb2 => ?_)
    rotate_left
    · have hei := early_stop hie ht (isE_ne3 (by simpa using hb2))
      k_offL
      exact ⟨rfl, _, _, _, _, _, _, _, P6, hP6, by rw [← hei]; assumption, by rw [hei, ← early_take] at htv; exact htv, by rw [hei, ← early_take] at hlv; exact hlv⟩
    obtain ⟨n, tv0, rfl⟩ := kind3 (eq_of_beq hb2)
    obtain ⟨_, _, rfl, hvv, hd7⟩ := dall_cons hkvr
    cases dall_nil hd7
    clear hd7
    obtain ⟨_, _, rfl, hnn, hd7⟩ := dall_cons hvor
    cases dall_nil hd7
    clear hd7
    obtain ⟨un, rfl⟩ := din_int hnn
    obtain ⟨bv, ev, ktv, vov, ov, eov, kv2, ekv2, kvv, rfl, hbv, hov, hvov, hkv2, hkvv⟩ := tell_in hvv
    have hbv' := to6 _ hbv
    k_offL
    refine tup_item (by assumption) hk1' (by omega) (by omega) (by simpa using hv1) ?_ (by k_dflt rfl)
    k_offL
    refine in_tup (by assumption) (.head _) (.cons _ _ (.cons _ _ .nil)) ?_
    k_offL
    rw [← isE_any n tv0]
    refine ifB (fun hb3 => ?_) (fun hb3 => ?_)
    rotate_left
    · have hei := early_stop hie ht hb3
      k_offL
      exact ⟨rfl, _, _, _, _, _, _, _, _, fun p hp => .tail _ (hP6 p hp), by rw [← hei]; assumption, by rw [hei, ← early_take] at htv; exact htv.mono (TkR.mono fun p hp => .tail _ hp), by rw [hei, ← early_take] at hlv; exact hlv.mono fun v t h => h.mono fun p hp => .tail _ hp⟩
    have hie' := early_more hie hilt ht hb3
    have htk : items.take (i + 1) = items.take i ++ [.setl n tv0] := by rw [List.take_add_one, ht]; rfl
    k_offL
    refine tup_item (by assumption) (.tail _ hk1') (by omega) (by omega) (by simpa using hv1) ?_ (by k_dflt rfl)
    repeat ((fail_if_success (with_reducible show wpAny _ _ (eval (Expr.BoolOp _ _ _) _) _ _ _)); k_clsL)
    have hu6 : IntsAre us late := hus
    refine cutN gN (fun ns v s' => ∃ P7, v = .bool (tkn cn late (.setl n tv0)) ∧ St w c' (asg ns [some (.ref b), none, some (.int (T.call f xs).kind kt), some (.ref o), some (.ref Lp), some (.int l tl), some (.ref pl), some (.int (-1) tr), some (.ref k1), some (.int n un), some (.ref D4), some (.ref Tk), some (.ref Lf), some (.int ((i : Nat) : Int) tki), it2]) ((Lf, listOf lv.toArray el) :: (Tk, listOf tv.toArray et) :: (c'.L + 1 + 1, oN) :: own) P7 s' ∧ (∀ p ∈ P6, p ∈ P7)) ?_ ?_
    · k_offL
      refine tup_item (by assumption) (.tail _ hk1') (by omega) (by omega) (by simpa using hv1) ?_ (by k_dflt rfl)
      k_offL
      refine ifB (fun hb4 => ?_) (fun hb4 => ?_)
      rotate_left
      · exact ⟨_, by simp only [tkn, isLam, hb4, Bool.false_and], by assumption, by k_places⟩
      k_offL
      refine PyProof.Rows.in_list_ints (St.isListP (by assumption) (.tail _ (hP6 _ hD4))) hu6 ?_
      rw [any_contains]
      k_offL
      refine ifB (fun hb5 => ?_) (fun hb5 => ?_)
      rotate_left
      · exact ⟨_, by simp only [tkn, isLam, hb4, hb5, Bool.false_and, Bool.true_and], by assumption, by k_places⟩
      have hcW : (c'.L + 1, oW) ∈ P6 := hP6 _ (i5 _ (i3 _ (hP2 _ (.head _))))
      k_offL
      refine useP (times_set W wv n un (hwv.mono fun p hp => .tail _ (to6 _ (toP2 _ hp))) hW) (by assumption) (by omega) (by omega) ?_
      rintro r P8 s8 S8 hs8 ⟨tkc, rfl⟩
      rw [← hcn n]
      k_offL
      have e1 : (((cn n : Nat) : Int) == 1) = (cn n == 1) := natbeq (cn n) 1
      rw [e1]
      exact ⟨P8, by simp only [tkn, isLam, hb4, hb5, Bool.true_and], by assumption, fun p hp => hs8 _ (.tail _ hp)⟩
    rintro v s4 ⟨P7, rfl, S14, hP7⟩
    have to7 : ∀ p ∈ P2, p ∈ P7 := fun p hp => hP7 _ (to6 _ hp)
    have hk17 := to7 _ hk1
    have hbr7 := to7 _ hbr
    have hkr7 := to7 _ hkr
    have htv7 := htv.mono (TkR.mono hP7)
    have hlv7 : All2 (fun v t => DatIn P7 v t.tell) lv ((items.take i).filter fun t => !tkn cn late t) := hlv.mono fun v t h => h.mono hP7
    k_offL
    refine ifB (fun hb4 => ?_) (fun hb4 => ?_)
    · k_offL
      refine tup_item (by assumption) hk17 (by omega) (by omega) (by simpa using hv1) ?_ (by k_dflt rfl)
      k_offL
      refine app (St.perm (own' := _ :: _ :: _ :: own) (by assumption) (List.Perm.swap _ _ _)) (fits_le (by omega)) ?_
      intro s11 S11
      have S12 := S11.perm (own' := _ :: _ :: _ :: own) (List.Perm.swap _ _ _)
      k_offL
      refine ⟨_, Nat.sub_lt_sub_left (by omega) (Nat.lt_succ_self i), i + 1, _, _, _, _, _, _, _, _, rfl, hie', fun p hp => .tail _ (hP7 _ (hP6 _ hp)), by assumption, ?_, ?_, by simpa using htn, by omega⟩
      · rw [htk, List.filter_append]
        simp only [List.filter_cons, hb4, if_true, List.filter_nil]
        exact (htv7.mono (TkR.mono fun p hp => .tail _ hp)).snoc ⟨_, _, _, _, rfl, .head _, hvv.mono fun p hp => .tail _ (to7 _ hp)⟩
      · rw [htk, List.filter_append]
        simp only [List.filter_cons, hb4, Bool.not_true, Bool.false_eq_true, if_false, List.filter_nil, List.append_nil]
        exact hlv7.mono fun v t h => h.mono fun p hp => .tail _ hp
    · k_offL
      refine tup_item (by assumption) hk17 (by omega) (by omega) (by simpa using hv1) ?_ (by k_dflt rfl)
      k_offL
      refine app (by assumption) (fits_le (by omega)) ?_
      intro s11 S11
      k_offL
      refine ⟨_, Nat.sub_lt_sub_left (by omega) (Nat.lt_succ_self i), i + 1, _, _, _, _, _, _, _, P7, rfl, hie', fun p hp => hP7 _ (hP6 _ hp), by assumption, ?_, ?_, by omega, by simpa using hln⟩
      · rw [htk, List.filter_append]
        simp only [List.filter_cons, hb4, Bool.false_eq_true, if_false, List.filter_nil, List.append_nil]
        exact htv7
      · rw [htk, List.filter_append]
        simp only [List.filter_cons, hb4, Bool.not_false, if_true, List.filter_nil]
        have hvd7 : DatIn P7 (Value.ref br) (T.setl n tv0).tell := DatIn.mono to7 hvd
        exact All2.snoc (R := fun v (t : T) => DatIn P7 v t.tell) hvd7 hlv7
  rintro fl s3 ⟨rfl, tki, it1, it2, tv, lv, et, el, P6, hP6, S13, htv, hlv⟩
  have to6 : ∀ p ∈ P2, p ∈ P6 := fun p hp => hP6 _ (i5 _ (i3 _ hp))
  have hBB : ∀ t ∈ items, 2 * t.dep ≤ 4 * (T.call f xs).dep := fun t ht => by
    have h1 := dep_fixT cn f
    rw [hgf] at h1
    have h2 := dep_mem ht
    have h3 : f.dep < (T.call f xs).dep := dep_kid (List.mem_cons_self)
    simp only [T.dep] at h1 h3 ⊢; omega
  have hsub : ∀ t ∈ early items, t ∈ items := fun t ht => by have := early_split items; rw [← this]; exact List.mem_append_left _ ht
  have ht1 : turn cn (.call (.lam l ps (.seq items)) (xs.map (fixT cn))) = turnL cn l ps items (xs.map (fixT cn)) := by
    show (if ps.length = (xs.map (fixT cn)).length then _ else _) = _
    rw [List.length_map, if_pos hl]
  have hel : (early items).length ≤ 4000 := Nat.le_trans (early_len items) (by omega)
  obtain ⟨tk, htk⟩ : ∃ tk, tk = (early items).filter (tkn cn late) := ⟨_, rfl⟩
  obtain ⟨rs, hrs⟩ : ∃ rs, rs = (early items).filter fun t => !tkn cn late t := ⟨_, rfl⟩
  rw [← htk] at htv
  rw [← hrs] at hlv
  have htm : ∀ t ∈ tk, t ∈ items := fun t ht => by rw [htk] at ht; exact hsub _ (List.mem_filter.mp ht).1
  have hkp := All2.mapR (R := KpR P6) (g := fun (t : T) => (t.num, t.valu)) htv
  have htl : tv.length ≤ 4000 := by rw [htv.length, htk]; exact Nat.le_trans (List.length_filter_le _ _) hel
  have hll : lv.length ≤ 4000 := by rw [hlv.length, hrs]; exact Nat.le_trans (List.length_filter_le _ _) hel
  dsimp only
  have S14 := (S13.settle).settle
  clear S13
  refine S14.abs fun P7 S15 hs7 => ?_
  clear S14
  have hs7' : ∀ p ∈ P6, p ∈ P7 := fun p hp => hs7 _ (.tail _ (.tail _ hp))
  have hTk := hs7 _ (.head _)
  have hLf := hs7 _ (.tail _ (.head _))
  clear hs7
  have hkp7 := hkp.mono (KpR.mono hs7')
  have hlv7 : All2 (fun v (t : T) => DatIn P7 v t.tell) lv rs := hlv.mono fun v t h => h.mono hs7'
  have to7 : ∀ p ∈ P2, p ∈ P7 := fun p hp => hs7' _ (to6 _ hp)
  k_offL
  refine eqDat (P₁ := P7) (4 * (T.call f xs).dep + 4) 1 (by assumption) (.list hTk (kp_dall hkp7)) (by k_places) (.list (.head _) .nil) (fun _ h => h) (kp_ok _ _ (kp_dep htm hBB)) (by decide) (by omega) ?_
  intro bb hbb
  rw [kp_nil, List.map_eq_nil_iff] at hbb
  k_offL
  refine ifB (fun hb => ?_) (fun hb => ?_)
  · have htn : tk = [] := hbb.mp hb
    k_offL
    refine fin _ _ _ _ _ (by assumption) (fun p hp => ?_) (by k_mem) ?_ (by show turn cn (.call (fixT cn f) _) = .call (fixT cn f) _; rw [hgf, ht1]; unfold turnL; dsimp only; rw [hLt, ← htk, htn]; rfl)
    · have := to7 _ hp; k_mem
    · have := hs7' _ (hP6 _ (i5 _ i4)); k_mem
  have htn : tk ≠ [] := fun e => by rw [hbb.mpr e] at hb; cases hb
  have he1 : 1 ≤ (early items).length := by
    rcases Nat.eq_zero_or_pos (early items).length with h | h
    · rw [List.length_eq_zero_iff.mp h] at htk; exact absurd htk htn
    · exact h
  have hk17 := to7 _ hk1
  k_offL
  refine tup_from (k := (early items).length) (by assumption) (by k_mem) he1 (by have := early_len items; omega) (by omega) ?_ (by k_dflt rfl) (by k_dflt exact fun _ => rfl)
  intro Dr s7 S7
  k_offL
  refine list_ofT (by assumption) (.head _) (by rw [List.length_drop]; omega) ?_
  intro D2 e2 s8 S8
  k_offL
  refine add_l (xs := lv) (ys := kv1.drop (early items).length) (by assumption) (St.isListP (by assumption) (by k_mem)) (St.isListP (by assumption) (by k_mem)) (fits_le (by rw [List.length_drop]; omega)) ?_
  intro D3 s9 S9
  refine S9.abs fun P8 S10 hs8 => ?_
  have hD3 := hs8 _ (.head _)
  have hs8' : ∀ p ∈ P7, p ∈ P8 := fun p hp => hs8 _ (by k_mem)
  clear S9 S8 S7 hs8
  have hL : DatAll P8 (lv ++ kv1.drop (early items).length) (tells (rs ++ items.drop (early items).length)) := by
    rw [tells_append]
    refine (All2.toDat (hlv7.mono fun v t h => h.mono hs8')).append ?_
    have h1 := hkv1.mono fun p hp => hs8' _ (to7 p hp)
    exact (dall_drop h1 _)
  have hLn : (lv ++ kv1.drop (early items).length).length = (rs ++ items.drop (early items).length).length := by
    rw [dall_len hL, tells_map, List.length_map]
  have hLz : (lv ++ kv1.drop (early items).length).length ≤ 9000 := by rw [List.length_append, List.length_drop]; omega
  generalize hLL : rs ++ items.drop (early items).length = L at hL hLn
  generalize hLv : lv ++ kv1.drop (early items).length = Lv at hL hLn hLz hD3
  repeat ((fail_if_success (with_reducible show wpAny _ _ (eval (Expr.IfExp _ _ _ _) _) _ _ _)); k_clsL)
  refine cutN gN (fun ns v s' => ∃ P9, DatIn P9 v (seqOf L).tell ∧ St w c' (asg ns [some (.ref b), none, some (.int (T.call f xs).kind kt), some (.ref o), some (.ref Lp), some (.int l tl), some (.ref pl), some (.int (-1) tr), some (.ref k1), it1, some (.ref D4), some (.ref Tk), some (.ref D3), some (.int (((early items).length : Nat) : Int) tki), it2]) ((c'.L + 1 + 1, oN) :: own) P9 s' ∧ (∀ p ∈ P8, p ∈ P9)) ?_ ?_
  · k_offL
    refine len_P (by assumption) (by k_mem) (by omega) ?_
    intro s4 tk4 S4
    k_offL
    refine ifB (fun hb => ?_) (fun hb => ?_)
    · repeat ((fail_if_success (with_reducible show wpAny _ _ (subscriptTail _ _ _ _) _ _ _)); k_clsL)
      have h1 : Lv.length = 1 := by have := eq_of_beq hb; omega
      obtain ⟨x, rfl⟩ := List.length_eq_one_iff.mp (hLn.symm.trans h1)
      obtain ⟨v, _, rfl, hv0, hd7⟩ := dall_cons hL
      cases dall_nil hd7
      refine li_item (St.isListP (by assumption) hD3) (by decide) (by decide) (by rfl) ?_ (by k_dflt rfl)
      exact ⟨_, hv0, by assumption, fun _ h => h⟩
    · have h1 : ¬ L.length = 1 := fun e => by rw [hLn, e] at hb; exact absurd hb (by decide)
      k_offL
      refine tuple_of (by assumption) (.tail _ hD3) (by omega) ?_
      intro Dt s5 S5
      k_offL
      refine ⟨_, ?_, by assumption, by k_places⟩
      rw [seqOf_ne1 h1]
      exact .tuple (.head _) (.cons (.int _ _) (.cons (.tuple (.tail _ (.tail _ (.head _))) .nil) (.cons (.tuple (.tail _ (.head _)) (hL.mono fun p hp => .tail _ (.tail _ (.tail _ hp)))) .nil)))
  rintro v s4 ⟨P9, hv9, S9, hs9⟩
  k_offL
  have hTk9 := hs9 _ (hs8' _ hTk)
  have hkp9 := hkp7.mono (KpR.mono fun p hp => hs9 _ (hs8' _ hp))
  refine comp_evalS (by assumption) (by decide) (by k_dflt rfl) (by decide) (by k_dflt rfl) (by decide) (by k_dflt exact fun _ => rfl) ?_
  k_offL
  refine compFst (by assumption) hTk9 hkp9 (by omega) rfl (by kernel_rfl) (by kernel_rfl) (by decide) (by decide) ?_
  intro P10 us1 D5 hs10 hus1 s5 S5
  have hun1 : us1.length = tv.length := by rw [hus1.length, List.length_map, List.length_map, htv.length]
  k_offL
  refine tuple_of (by assumption) (.head _) (by omega) ?_
  intro D6 s6 S6
  k_offL
  rename_i Dn _ S7
  refine S7.abs fun P11 S8 hs11 => ?_
  have hDn := hs11 _ (.head _)
  have hD6 := hs11 _ (.tail _ (.head _))
  have hs11' : ∀ p ∈ P9, p ∈ P11 := fun p hp => hs11 _ (.tail _ (.tail _ (.tail _ (hs10 _ hp))))
  clear S5 S6 S7 hs11
  have hTk11 := hs11' _ hTk9
  have hkp11 := hkp9.mono (KpR.mono hs11')
  refine comp_evalS (by assumption) (by decide) (by k_dflt rfl) (by decide) (by k_dflt rfl) (by decide) (by k_dflt exact fun _ => rfl) ?_
  k_offL
  refine compSnd (by assumption) hTk11 hkp11 (by omega) rfl (by kernel_rfl) (by kernel_rfl) (by decide) (by decide) ?_
  intro P12 us2 D7 hs12 hus2 s5 S5
  have hun2 : us2.length = tv.length := by rw [dall_len hus2, tells_map, List.length_map, List.length_map, List.length_map, htv.length]
  k_offL
  refine tuple_of (by assumption) (.head _) (by omega) ?_
  intro D8 s6 S6
  k_offL
  refine add_tup (by assumption) (.tail _ (.head _)) (.head _) (by rw [List.length_singleton]; omega) ?_
  intro D9 e9 P13 s7 S7 hs13 hD9
  k_offL
  rename_i Db _ _ _ S10
  refine S10.abs fun P14 S11 hs14 => ?_
  have hbody : DatIn P14 (.ref Db) (T.fix (tk.map T.num) (tk.map T.valu) (seqOf L)).tell := by
    have a1 : ∀ p ∈ P11, p ∈ P14 := fun p hp => hs14 _ (.tail _ (hs13 _ (.tail _ (.tail _ (.tail _ (hs12 _ hp))))))
    have a2 : ∀ p ∈ P12, p ∈ P14 := fun p hp => hs14 _ (.tail _ (hs13 _ (.tail _ (.tail _ (.tail _ hp)))))
    rw [List.map_map] at hus1 hus2
    refine .tuple (hs14 _ (.head _)) (.cons (.int _ _) (.cons (.tuple (a1 _ hDn) (.cons (.tuple (a1 _ hD6) (ints_dall hus1)) .nil)) (.cons (.tuple (hs14 _ (.tail _ hD9)) ?_) .nil)))
    exact (hus2.mono a2).append (.cons (hv9.mono fun p hp => a1 _ (hs11' _ hp)) .nil)
  have hs14' : ∀ p ∈ P11, p ∈ P14 := fun p hp => hs14 _ (.tail _ (hs13 _ (.tail _ (.tail _ (.tail _ (hs12 _ hp))))))
  clear S5 S6 S7 S8 S10 hs14
  have hTk14 := hs14' _ hTk11
  have hkp14 := hkp11.mono (KpR.mono hs14')
  refine wpAny_Assign_Name ?_ (by k_dflt rfl)
  refine comp_evalS (by assumption) (by decide) (by k_dflt rfl) (by decide) (by k_dflt rfl) (by decide) (by k_dflt exact fun _ => rfl) ?_
  k_offL
  refine compFst (by assumption) hTk14 hkp14 (by omega) rfl (by kernel_rfl) (by kernel_rfl) (by decide) (by decide) ?_
  intro P15 us3 D10 hs15 hus3 s5 S5
  refine st_cell (by assumption) gN (by k_dflt rfl) hN0 (by kat_tups) ?_
  intro s6 oN' hoN S6
  have S7 := S6.settle
  refine S7.abs fun P16 S8 hs16 => ?_
  have hcN := hs16 _ (.head _)
  have hD10 : (D10, listOf us3.toArray us3.length) ∈ P16 := hs16 _ (.tail _ (.head _))
  have hs16' : ∀ p ∈ P14, p ∈ P16 := fun p hp => hs16 _ (.tail _ (.tail _ (hs15 _ hp)))
  clear S5 S6 S7 hs16
  k_offL
  have to16 : ∀ p ∈ P9, p ∈ P16 := fun p hp => hs16' _ (hs14' _ (hs11' _ hp))
  have to16b : ∀ p ∈ P7, p ∈ P16 := fun p hp => to16 _ (hs9 _ (hs8' _ hp))
  have hLp16 : (Lp, tupOf (Value.ref b0 :: yr) 0) ∈ P16 := to16b _ (hs7' _ (hP6 _ (i5 _ i4)))
  have hpl16 : (pl, tupOf pv epl) ∈ P16 := to16b _ (to7 _ hpl)
  have hus3' : IntsAre us3 (tk.map T.num) := by rw [List.map_map] at hus3; exact hus3
  have hdx : ∀ x ∈ xs.map (fixT cn), 2 * x.dep ≤ 4 * (T.call f xs).dep := fun x hxm => by
    obtain ⟨x0, hx0, hx1⟩ := List.mem_map.mp hxm
    have h1 := dep_fixT cn x0
    have h2 : x0.dep < (T.call f xs).dep := dep_kid (List.mem_cons_of_mem _ hx0)
    rw [hx1] at h1; omega
  refine comp_assignS (by assumption) gN (by k_dflt rfl) (by decide) (by k_dflt rfl) (by decide) (by k_dflt rfl) (by decide) (by k_dflt exact fun _ => rfl) ?_
  k_offL
  refine tup_from (k := 1) (by assumption) hLp16 (by decide) (by rw [List.length_cons]; omega) (by rw [List.length_cons]; omega) ?_ (by k_dflt rfl) (by k_dflt exact fun _ => rfl)
  intro Dq s9 S9
  rw [show List.drop 1 (Value.ref b0 :: yr) = yr from rfl] at S9
  refine compZT (by assumption) (.tail _ hpl16) (.head _) (by omega) rfl (by kernel_rfl) (by kernel_rfl) (by decide) (fun i own₁ P₁ zs => own₁ = own ∧ (∀ p ∈ P16, p ∈ P₁) ∧ All2 (KpR P₁) zs (((ps.take i).zip ((xs.map (fixT cn)).take i)).filter fun p => !(tk.map T.num).contains p.1)) ⟨rfl, fun p hp => .tail _ hp, .nil⟩ ?_ ?_
  ·
    rintro i own₁ P₁ P₁' tl' C oC m₂ zs s₂ E' hi ⟨rfl, hPi, hzs⟩ ⟨va, vb, hva, hvb, hma, hmb⟩ hC htl S hs
    obtain ⟨n, u, rfl, hn⟩ := hpi.at _ _ hva
    obtain ⟨d, hd, hvd⟩ := dall_get hyr hvb
    obtain ⟨x, hx, rfl⟩ := tells_get hd
    have to3 : ∀ p ∈ P2, p ∈ P₁' := fun p hp => hs _ (hPi _ (to16b _ (to7 _ hp)))
    have hlt : ((ps.take (i + 1)).zip ((xs.map (fixT cn)).take (i + 1))).filter (fun p => !(tk.map T.num).contains p.1) = ((ps.take i).zip ((xs.map (fixT cn)).take i)).filter (fun p => !(tk.map T.num).contains p.1) ++ (if (tk.map T.num).contains n then [] else [(n, x)]) := by
      rw [List.take_add_one, List.take_add_one, hn, hx, Option.toList_some, Option.toList_some, List.zip_append (by rw [List.length_take, List.length_take, List.length_map, hl]), List.filter_append]
      by_cases hu : (tk.map T.num).contains n = true
      · simp only [List.zip_cons_cons, List.zip_nil_right, List.filter_cons, hu, Bool.not_true, Bool.false_eq_true, if_false, if_true, List.filter_nil]
      · have hu' : (tk.map T.num).contains n = false := by simpa using hu
        simp only [List.zip_cons_cons, List.zip_nil_right, List.filter_cons, hu', Bool.not_false, Bool.false_eq_true, if_false, if_true, List.filter_nil]
    have hzs' := hzs.mono (KpR.mono hs)
    show wpAny _ _ _ _ _ _
    refine wpAny_isTrue_Compare1 ?_ (by k_dflt rfl)
    refine cv_loc S (List.mem_append_right _ htl) hC hma ?_ rfl (by kernel_rfl)
    refine cv_cell S (by k_dflt rfl) (hs _ (hPi _ hcN)) hoN ?_ rfl (by kernel_rfl)
    refine PyProof.Rows.notin_list_ints (St.isListP S (hs _ (hPi _ hD10))) hus3' ?_
    rw [any_contains]
    k_offL
    refine ifB (fun hb => ?_) (fun hb => ?_)
    · have hc : (tk.map T.num).contains n = false := by simpa using hb
      rw [hc, if_neg (by decide)] at hlt
      refine Tuple_ ?_
      k_offL
      refine cv_loc S (List.mem_append_right _ htl) hC hma ?_ rfl (by kernel_rfl)
      k_offL
      refine cv_loc S (List.mem_append_right _ htl) hC hmb ?_ rfl (by kernel_rfl)
      k_offL
      refine ⟨_, _, (by assumption), ?_, rfl, ?_, ?_⟩
      · k_places
      · intro p hp
        have := hs _ (hPi _ hp)
        k_mem
      · rw [hlt]; exact (hzs'.mono (KpR.mono fun p hp => .tail _ hp)).snoc ⟨_, _, _, _, rfl, .head _, hvd.mono fun p hp => .tail _ (to3 _ hp)⟩
    · have hc : (tk.map T.num).contains n = true := by simpa using hb
      rw [hc, if_pos rfl, List.append_nil] at hlt
      refine ⟨_, _, (by assumption), ?_, rfl, ?_, ?_⟩
      · k_places
      · intro p hp
        have := hs _ (hPi _ hp)
        k_mem
      · rw [hlt]; simpa using hzs'
  rintro own' P17 zs D11 ⟨rfl, hP17, hzs⟩
  have hzz : ((ps.take (min pv.length yr.length)).zip ((xs.map (fixT cn)).take (min pv.length yr.length))).filter (fun p => !(tk.map T.num).contains p.1) = (ps.zip (xs.map (fixT cn))).filter (fun p => !(tk.map T.num).contains p.1) := by
    rw [hmin, zip_min]
  rw [hzz] at hzs
  keq_hits
  intro s10 S10
  dsimp only
  have hks : ∀ p ∈ (ps.zip (xs.map (fixT cn))).filter (fun p => !(tk.map T.num).contains p.1), 2 * p.2.dep ≤ 4 * (T.call f xs).dep := fun p hp => hdx _ (List.of_mem_zip (List.mem_filter.mp hp).1).2
  generalize hkk : (ps.zip (xs.map (fixT cn))).filter (fun p => !(tk.map T.num).contains p.1) = ks at hzs hks
  have hzn : zs.length ≤ 4000 := by
    have h1 := List.length_filter_le (fun p => !(tk.map T.num).contains p.1) (ps.zip (xs.map (fixT cn)))
    rw [hkk, List.length_zip, List.length_map] at h1
    rw [hzs.length]; omega
  refine S10.abs fun P18 S11 hs18 => ?_
  have hD11 : (D11, listOf zs.toArray zs.length) ∈ P18 := hs18 _ (.head _)
  have hs18' : ∀ p ∈ P16, p ∈ P18 := fun p hp => hs18 _ (.tail _ (hP17 _ hp))
  have hzs18 := hzs.mono (KpR.mono fun p hp => hs18 _ (.tail _ hp))
  clear S10 hs18 S9
  k_offL
  refine eqDat (P₁ := P18) (4 * (T.call f xs).dep + 4) 1 (by assumption) (.list hD11 (kp_dall hzs18)) (by k_places) (.list (.head _) .nil) (fun _ h => h) (kp_ok _ _ hks) (by decide) (by omega) ?_
  intro bb hbb
  rw [kp_nil] at hbb
  have hts : T.tell (fixT cn (T.call f xs)) = T.tell (if ks.isEmpty then T.fix (tk.map T.num) (tk.map T.valu) (seqOf L) else .call (.lam l (ks.map (·.1)) (T.fix (tk.map T.num) (tk.map T.valu) (seqOf L))) (ks.map (·.2))) := by
    show T.tell (turn cn (.call (fixT cn f) (fixTs cn xs))) = _
    rw [fixTs_map, hgf, ht1]
    unfold turnL
    dsimp only
    rw [hLt, ← htk, ← hrs, hLL, hkk, if_neg (by simpa using htn)]
  k_offL
  refine ifB (fun hb => ?_) (fun hb => ?_)
  · have hkn : ks = [] := hbb.mp hb
    k_offL
    refine ⟨_, own', [], _, (by rw [List.append_nil]; assumption), (fun p hp => ?_), rfl, rfl, ?_⟩
    · have := hs18' _ (to16b _ (to7 _ (toP2 _ hp))); k_mem
    · rw [hts, hkn]
      exact hbody.mono fun p hp => .tail _ (hs18' _ (hs16' _ hp))
  have hkn : ks ≠ [] := fun e => by rw [hbb.mpr e] at hb; cases hb
  k_offL
  refine comp_evalS (by assumption) (by decide) (by k_dflt rfl) (by decide) (by k_dflt rfl) (by decide) (by k_dflt exact fun _ => rfl) ?_
  k_offL
  refine compFst (by assumption) (.tail _ hD11) (hzs18.mono (KpR.mono fun p hp => .tail _ hp)) (by omega) rfl (by kernel_rfl) (by kernel_rfl) (by decide) (by decide) ?_
  intro P19 us4 D12 hs19 hus4 s5 S5
  have hun4 : us4.length = zs.length := by rw [hus4.length, List.length_map, hzs.length]
  k_offL
  refine tuple_of (by assumption) (.head _) (by omega) ?_
  intro D13 s6 S6
  k_offL
  rename_i Dhd _ _ _ _ Dh1 _ S12
  refine S12.abs fun P20 S13 hs20 => ?_
  have hs20' : ∀ p ∈ P18, p ∈ P20 := by
    intro p hp
    have := hs19 _ (List.mem_cons_of_mem _ hp)
    exact hs20 _ (by k_mem)
  have hhead : DatIn P20 (.ref Dhd) (T.lam l (ks.map (·.1)) (T.fix (tk.map T.num) (tk.map T.valu) (seqOf L))).tell := by
    refine .tuple (hs20 _ (.tail _ (.head _))) (.cons (.int _ _) (.cons (.tuple (hs20 _ (by k_mem)) (.cons (.int _ _) (.cons (.tuple (hs20 _ (by k_mem)) (ints_dall hus4)) (.cons (.int _ _) .nil)))) (.cons (.tuple (hs20 _ (by k_mem)) (.cons (hbody.mono fun p hp => hs20' _ (hs18' _ (hs16' _ hp))) .nil)) .nil)))
  have hDh1 := hs20 _ (.head _)
  clear S5 S6 S12 hs20
  refine comp_evalS (by assumption) (by decide) (by k_dflt rfl) (by decide) (by k_dflt rfl) (by decide) (by k_dflt exact fun _ => rfl) ?_
  k_offL
  refine compSnd (by assumption) (hs20' _ hD11) (hzs18.mono (KpR.mono hs20')) (by omega) rfl (by kernel_rfl) (by kernel_rfl) (by decide) (by decide) ?_
  intro P21 us5 D14 hs21 hus5 s5 S5
  have hun5 : us5.length = zs.length := by rw [dall_len hus5, tells_map, List.length_map, List.length_map, hzs.length]
  k_offL
  refine tuple_of (by assumption) (.head _) (by omega) ?_
  intro D15 s6 S6
  k_offL
  refine add_tup (by assumption) (.tail _ (.tail _ (hs21 _ hDh1))) (.head _) (by rw [List.length_singleton]; omega) ?_
  intro D16 e16 P22 s7 S7 hs22 hD16
  k_offL
  have f20 : ∀ p ∈ P20, p ∈ P22 := fun p hp => hs22 _ (.tail _ (.tail _ (hs21 _ hp)))
  have f2 : ∀ p ∈ P2, p ∈ P22 := fun p hp => f20 _ (hs20' _ (hs18' _ (to16b _ (to7 _ hp))))
  refine ⟨_, own', [], _, (by rw [List.append_nil]; assumption), (fun p hp => .tail _ (f2 _ (toP2 _ hp))), rfl, rfl, ?_⟩
  rw [hts, if_neg (by simpa using hkn)]
  refine .tuple (.head _) (.cons (.int _ _) (.cons (.tuple (.tail _ (f2 _ (toP2 _ ho))) (hvo.mono fun p hp => .tail _ (f2 _ (toP2 _ hp)))) (.cons (.tuple (.tail _ hD16) ?_) .nil)))
  exact .cons (hhead.mono fun p hp => .tail _ (f20 _ hp)) (hus5.mono fun p hp => .tail _ (hs22 _ (.tail _ (.tail _ hp))))
theorem due_of {w : World} {P : Led} {W : T} {wv : Value} {cn : Int → Nat} (t : T) (v : Value) (hv : DatIn P v t.tell) (hwv : DatIn P wv W.tell) (hcn : ∀ n, cn n = (setn W).count n) (hW : W.size ≤ 4000) (hok : OkT cn t) :
    Pure w (4 * t.dep + (2 * W.dep + 20)) P (call (.ref 565) [v, wv]) fun P' r => DatIn P' r (fixT cn t).tell :=
  due1 t v hv hwv hcn hW hok fun d hd v P h hw => due_of d v h hw hcn hW (hok.kid hd)
termination_by t.size
decreasing_by exact size_kid hd
theorem enterMS {w : World} {c : Cx} {m : Str → Option Value} {cells rest P : Led} {s : Shared} {Q E : Value → Shared → Prop} {K : Frag} {name qual : Str} {params : Arguments} {body : List Stmt} {ns : List (Str × NameKind)} {mo : List (Str × Const)} {dV kV doc pm cdv ct oc : Value} {an od : Option Addr} {osl : Array (Option Value)} {f : Addr} {vs : List Value} {Out : Led → Led → Value → Prop}
    (hK : K = hd.heap_39 w.params) (S : St w c m (cells ++ rest) P s)
    (ho : K.lookup f = some ⟨oc, od, .func (fnOf name qual params body (fnSc ns mo) dV kV doc pm an cdv ct), osl⟩) (hcd : codeIn K cdv qual = true) (hroom : c.A.depth < recursionLimit)
    (hbind : BindsTo s (fnOf name qual params body (fnSc ns mo) dV kV doc pm an cdv ct) ⟨vs, []⟩ ((params.args.map (·.arg)).zip vs)) (hlen : (params.args.map (·.arg)).length = vs.length) (hgood : goodFn ns (params.args.map (·.arg)) = true)
    (h : ∀ c' s', (∀ b o, c.g.get? b = some o → c'.g.get? b = some o) → goodNs ns = true → c'.A.depth = c.A.depth + 1 → c'.A.units = c.A.units + 3 → St w c' (asg ns (vs.map some)) cells P s' →
      wpAny (model PySem.Challenge.rw_pq1024_01.row.prog w) c'.A (execs body (envX qual (fnSc ns mo) c'.L f cdv [])) (fun fl s'' => Ends w c' P (fun cs P' r => cs.map (·.1) = cells.map (·.1) ∧ Out cs P' r) (match fl with | .ret v => v | _ => .none) s'') (fun _ _ => False) s')
    (ret : ∀ r cells' P' s', St w c m (cells' ++ rest) P' s' → cells'.map (·.1) = cells.map (·.1) → (∀ p ∈ P, p ∈ P') → Out cells' P' r → Q r s') :
    codeAny (model PySem.Challenge.rw_pq1024_01.row.prog w) c.A (.call (.ref f) ⟨vs, []⟩) (fun r s' => match r with | .ok (.ret v) => Q v s' | .ok _ => False | .error e => E e s') s := by
  subst hK
  obtain ⟨e, hA, hf, hke⟩ := S.fr
  have Nsub : News c.g c.L s.heap (cells ++ P) := fun p hp => S.N p ((List.mem_append.mp hp).elim (fun h => List.mem_append_left _ (List.mem_append_left _ h)) fun h => List.mem_append_right _ h)
  simp only [goodFn, Bool.and_eq_true, List.all_eq_true, bne_iff_ne, ne_eq] at hgood
  obtain ⟨⟨hg, hpre⟩, hcell⟩ := hgood
  have hloc : ∀ y ∈ (params.args.map (·.arg)).zip vs, (fnSc ns mo).names.lookup y.1 = some .local := fun y hy => (goodNs_mem hg (prefix_mem hpre _ (List.of_mem_zip hy).1)).1
  refine code_defG (news := cells ++ P) S.B S.F S.X Nsub S.T hA hf hke ho hcd hroom hbind hloc (fun g L' h₁ FG F' N' B' X' T' G' => ?_) rfl rfl rfl hcell
  have hasg : (fun y => ((params.args.map (·.arg)).zip vs).reverse.lookup y) = asg ns (vs.map some) := funext fun y => asg_args y hg hpre hlen
  rw [hasg] at F'
  have ndc : (cells.map (·.1)).Nodup := by
    have := S.nd
    rw [List.map_append] at this
    exact (List.nodup_append.mp this).1
  let c' : Cx := ⟨c.pp, c.loose, c.mean, c.mg, c.mb, c.A, c.base, e :: c.outer, g, L', c.A.deeper (envOf qual (fnSc ns mo) L' f cdv), s⟩
  have S' : St w c' (asg ns (vs.map some)) cells P { s with heap := h₁, toks := s.toks + ((params.args.map (·.arg)).zip vs).length } :=
    ⟨F', N', apart_left S.ap, ndc, X', T', B', S.hh, ⟨_, Around.frames_deeper B'.stack, rfl, rfl⟩, rfl, rfl, rfl⟩
  refine wpAny_mono (h c' _ (fun b o e => FG.keep b o e) hg rfl rfl S') (fun fl s' hdn => ?_) fun _ _ e => e.elim
  obtain ⟨m₂, cells', own', P', S₂, hs, hcs, hO⟩ := hdn
  refine ⟨L', m₂, (cells' ++ own') ++ P', S₂.F, S₂.N, fun F₃ N₃ => ?_⟩
  have hid : ∀ q ∈ rest, q.1 ∉ (cells ++ P).map (·.1) := fun q hq hm => by
    obtain ⟨p, hp, e⟩ := List.mem_map.mp hm
    rcases List.mem_append.mp hp with hp | hp
    · have := S.nd
      rw [List.map_append, List.nodup_append] at this
      exact this.2.2 p.1 (List.mem_map_of_mem hp) q.1 (List.mem_map_of_mem hq) e
    · exact S.ap q (List.mem_append_right _ hq) p hp e
  have gq : ∀ q ∈ rest, g.get? q.1 = some q.2 := fun q hq => G' _ _ (S.N q (List.mem_append_left _ (List.mem_append_right _ hq))).1 (hid q hq)
  have eq' : s' = { s with heap := s'.heap, toks := s'.toks } := by
    have h1 := S₂.eg
    have h2 := S₂.ed
    have h3 := S₂.eo
    cases s'
    dsimp only [c'] at h1 h2 h3
    subst h1 h2 h3
    rfl
  have ap' : Apart (cells' ++ rest) P' := by
    intro q hq p hp e
    rcases List.mem_append.mp hq with hq | hq
    · exact S₂.ap q (List.mem_append_left _ hq) p hp e
    · have h1 := (S₂.N p (List.mem_append_right _ hp)).2.2
      rw [e, gq q hq] at h1
      cases h1
  have nd' : ((cells' ++ rest).map (·.1)).Nodup := by
    have := S.nd
    rw [List.map_append] at this ⊢
    rw [hcs]; exact this
  refine ret _ cells' P' s' ⟨F₃, fun p hp => ?_, ap', nd', S.X, S.T, S.B, S.hh, S.fr, (congrArg Shared.gens eq').trans S.eg, (congrArg Shared.drawn eq').trans S.ed, (congrArg Shared.os eq').trans S.eo⟩ hcs hs hO
  rcases List.mem_append.mp hp with hp | hp
  · rcases List.mem_append.mp hp with hp | hp
    · exact N₃ p (List.mem_append_left _ (List.mem_append_left _ hp))
    · exact ⟨S₂.F.keep _ _ (gq p hp), (S.N p (List.mem_append_left _ (List.mem_append_right _ hp))).2⟩
  · exact N₃ p (List.mem_append_right _ hp)

theorem enterS {w : World} {c : Cx} {m : Str → Option Value} {own P : Led} {s : Shared} {Q E : Value → Shared → Prop} {K : Frag} {name qual : Str} {params : Arguments} {body : List Stmt} {ns : List (Str × NameKind)} {mo : List (Str × Const)} {dV kV doc pm cdv ct oc : Value} {an od : Option Addr} {osl : Array (Option Value)} {f : Addr} {vs : List Value} {Out : Led → Value → Prop}
    (hK : K = hd.heap_39 w.params) (S : St w c m own P s)
    (ho : K.lookup f = some ⟨oc, od, .func (fnOf name qual params body (fnSc ns mo) dV kV doc pm an cdv ct), osl⟩) (hcd : codeIn K cdv qual = true) (hroom : c.A.depth < recursionLimit)
    (hbind : BindsTo s (fnOf name qual params body (fnSc ns mo) dV kV doc pm an cdv ct) ⟨vs, []⟩ ((params.args.map (·.arg)).zip vs)) (hlen : (params.args.map (·.arg)).length = vs.length) (hgood : goodFn ns (params.args.map (·.arg)) = true)
    (h : ∀ c' s', (∀ b o, c.g.get? b = some o → c'.g.get? b = some o) → goodNs ns = true → c'.A.depth = c.A.depth + 1 → c'.A.units = c.A.units + 3 → St w c' (asg ns (vs.map some)) [] P s' →
      wpAny (model PySem.Challenge.rw_pq1024_01.row.prog w) c'.A (execs body (envX qual (fnSc ns mo) c'.L f cdv [])) (fun fl s'' => Ends w c' P (fun cs P' r => cs = [] ∧ Out P' r) (match fl with | .ret v => v | _ => .none) s'') (fun _ _ => False) s')
    (ret : ∀ r P' s', St w c m own P' s' → (∀ p ∈ P, p ∈ P') → Out P' r → Q r s') :
    codeAny (model PySem.Challenge.rw_pq1024_01.row.prog w) c.A (.call (.ref f) ⟨vs, []⟩) (fun r s' => match r with | .ok (.ret v) => Q v s' | .ok _ => False | .error e => E e s') s := by
  refine enterMS (cells := []) (rest := own) (Out := fun cs P' r => cs = [] ∧ Out P' r) hK S ho hcd hroom hbind hlen hgood (fun c' s' hk h0 h1 h2 S' => wpAny_mono (h c' s' hk h0 h1 h2 S') (fun fl s'' hf => ?_) fun _ _ e => e) (fun r cs P' s' S' e hs o => ?_)
  · obtain ⟨m', cs, own', P', S'', hs, rfl, ho⟩ := hf
    exact ⟨m', [], own', P', S'', hs, rfl, rfl, ho⟩
  · obtain ⟨rfl, o⟩ := o
    exact ret r P' s' S' hs o

section
variable {w : World} {c : Cx} {m : Str → Option Value} {own P : Led} {s : Shared} {E : Value → Shared → Prop} {Q : Value → Shared → Prop}
theorem ccallB1 {C : Addr} {scope : Scope} {cl : List (Str × Addr)} {env : Env} {x : Str} {px pos : Pos} {T : String} {e1 : Expr} (S : St w c m own P s) (e : nsIn (hd.heap_39 w.params) mainGlobals x = some none) (hv : bootBuiltins x = some (.builtin T)) (hn : x ≠ "__name__")
    (h : wpAny (model PySem.Challenge.rw_pq1024_01.row.prog w) c.A (eval e1 (compEnvC scope cl C env)) (fun v1 s1 => wpAny (model PySem.Challenge.rw_pq1024_01.row.prog w) c.A (call (.builtin T) [v1]) Q E s1) E s) (hg : env.globals = mainGlobals) (hb : env.builtins = builtinsNs)
    (hk : (compEnvC scope cl C env).scope.kind = .function) (hx : (compEnvC scope cl C env).kindOf x = some .globalImplicit) (he1 : starEach [e1] (compEnvC scope cl C env) = [(false, eval e1 (compEnvC scope cl C env))]) (hd : (x == ("__debug__" : Str)) = false := by decide) :
    wpAny (model PySem.Challenge.rw_pq1024_01.row.prog w) c.A (eval (.Call (.Name x px) [e1] [] pos) (compEnvC scope cl C env)) Q E s :=
  Call_ (LCgL.ld_built S.F S.X S.T e hv hn (PyProof.Rows.callWith_builtin1 (args_cons (wpAny_mono h (fun v s1 h1 => args_nil h1) fun _ _ e => e) he1) he1 rfl) hg hb hk hx hd)
theorem add_lO {a b : Addr} {xs ys : List Value} {Q : Value → Shared → Prop} (S : St w c m own P s) (ha : s.heap.IsList a xs.toArray) (hb : s.heap.IsList b ys.toArray) (hz : xs.length + ys.length ≤ sizeLine)
    (h : ∀ D s', St w c m ((D, listOf (xs ++ ys).toArray 0) :: own) P s' → Q (.ref D) s') : wpAny (model PySem.Challenge.rw_pq1024_01.row.prog w) c.A (binaryOp .Add (.ref a) (.ref b)) Q E s :=
  kmk_add_lit (zs := xs ++ ys) S.F S.N ha hb (by simp) (fun D h' F' N' lt => h D _ (S.addO (tk := s.toks) F' N' lt)) (by simpa using hz)
theorem deck_of {a : Addr} {us : List Value} {ns : List Int} (S : St w c m own P s) (hl : c.g.IsList a us.toArray) (hi : IntsAre us ns) (hz : us.length ≤ 63) (hdp : c.A.depth + 4 < recursionLimit) (hu : c.A.units + 32 < cLine)
    (ret : ∀ D xs n P' s', St w c m own P' s' → (∀ p ∈ P, p ∈ P') → (D, listOf xs.toArray n) ∈ P' → Dk xs → (∀ p ∈ P, p.1 ≠ D) → Q (.ref D) s') :
    wpAny (model PySem.Challenge.rw_pq1024_01.row.prog w) c.A (call (.ref 524) [.ref a]) Q E s := by
  have X := S.X
  refine wpAny_call ?_
  refine enterS (K := hd.heap_39 _) (Out := fun P' r => ∃ D xs n, r = .ref D ∧ (D, listOf xs.toArray n) ∈ P' ∧ Dk xs ∧ ∀ p ∈ P, p.1 ≠ D) rfl S (by k_is) (by k_is) (by omega) (by exact BindsTo.of_eq rfl) (by exact rfl) (by kernel_rfl) ?_ ?_
  case refine_2 =>
    rintro r P' s' S' hs ⟨D, xs, n, rfl, h1, h2, h3⟩
    exact ret D xs n P' s' S' hs h1 h2 h3
  clear ret S
  intro c' s' hkp gN hd' hu' S'
  dsimp only [List.map] at S'
  have hl' : c'.g.IsList a us.toArray := hl.at fun o e => hkp _ o e
  k_offL
  refine comp_evalS (by assumption) (by decide) (by k_dflt rfl) (by decide) (by k_dflt rfl) (by decide) (by k_dflt exact fun _ => rfl) ?_
  k_offL
  rename_i S1
  refine slice_up (xs := us) (by assumption) (hl'.at fun o e => S1.F.keep _ o e) .none (.int _ _) (pick_to (by decide)) (by omega) ?_ (by k_dflt rfl) (by k_dflt exact fun _ => rfl)
  intro Ds s3 S3
  refine compL (vs := us.take 24) (by assumption) (.head _) (by rw [List.length_take]; omega) rfl (by kernel_rfl) (fun i own₁ P₁ ys => own₁ = [] ∧ (∀ p ∈ P, p ∈ P₁) ∧ (∃ ns', IntsAre ys ns' ∧ (∀ i ∈ ns', (0 : Int) ≤ i)) ∧ ys.length = i) ⟨rfl, fun p hp => .tail _ hp, ⟨[], .nil, fun _ h => nomatch h⟩, rfl⟩ ?_ ?_
  · rintro i own₁ P₁ P₁' tl C oC m₂ ys s₂ E' hi' ⟨rfl, hPi, ⟨ns', hy1, hy2⟩, hyn⟩ hG hC htl S hs
    have hi2 : i < 24 ∧ i < us.length := by rw [List.length_take] at hi'; omega
    rw [List.getElem?_take_of_lt hi2.1] at hG
    obtain ⟨v, hv⟩ : ∃ v, us[i]? = some v := ⟨us[i]'hi2.2, by simp [hi2.2]⟩
    obtain ⟨n, u, rfl, hn⟩ := hi.at _ _ hv
    rw [hv] at hG
    show wpAny _ _ _ _ _ _
    refine wpAny_BinOp ?_
    refine ccallB1 (x := Str.ofString "abs") S (gn_abs _) bt_abs bt_ne_abs ?_ rfl rfl rfl (by kernel_rfl) (by k_dflt rfl)
    refine cv_loc S (List.mem_append_right _ htl) hC hG ?_ rfl (by kernel_rfl)
    refine PyProof.Rows.call_abs_int ?_
    intro u1 tk1
    have S4 := S.tok tk1
    refine wpAny_BinOp ?_
    refine ev_int S4 ?_
    intro s5 tk5 S5
    refine ev_int S5 ?_
    intro s6 tk6 S6
    refine pow_int_small (by decide) (by decide) (by decide) ?_
    refine modS (S6.tok _) (by decide) ?_
    intro s7 tk7 S7
    refine ⟨_, _, S7, fun _ h => h, rfl, fun p hp => hs _ (hPi _ hp), ⟨ns' ++ [_], hy1.append (.cons _ _ .nil), fun z hz => ?_⟩, by simp [hyn]⟩
    rcases List.mem_append.mp hz with hz | hz
    · exact hy2 z hz
    · rw [List.mem_singleton.mp hz]
      exact Int.fmod_nonneg_of_pos _ (by decide)
  rintro own' P2 ys D ⟨rfl, hP2, ⟨ns', hy1, hy2⟩, hyn⟩ s4 S4
  have hyz : ys.length ≤ 24 := by rw [hyn, List.length_take]; omega
  k_offL
  rename_i Lc s5 S5
  refine add_lO (xs := ys) (ys := [_]) S5 (St.isListP S5 (.tail _ (.head _))) (St.isListP S5 (.head _)) (fits_le (by simp; omega)) ?_
  intro D2 s6 S6
  k_offL
  refine ⟨_, [], [], _, S6.settle, fun p hp => .tail _ (.tail _ (.tail _ (hP2 p hp))), rfl, D2, _, _, rfl, .head _, ⟨ns' ++ [1234567890123456789012345], hy1.append (.cons _ _ .nil), fun z hz => ?_, by simp; omega⟩, fun p hp => S6.ap _ (.head _) p (.tail _ (.tail _ (hP2 p hp)))⟩
  rcases List.mem_append.mp hz with hz | hz
  · exact hy2 z hz
  · rw [List.mem_singleton.mp hz]; decide
end

theorem tk_Fixing_facts (w : World) : takerIn (hd.heap_39 w.params) 501 (Str.ofString "facts") = some none := by kernel_rfl
theorem sat_Fixing (w : World) : findIn (hd.heap_39 w.params) (.ref 501) "__setattr__" = some (some (.builtin "object.__setattr__")) := by kernel_rfl
theorem po_Fixing (w : World) : plainOver (hd.heap_39 w.params) 501 = true := by kernel_rfl
theorem c_Fixing {w : World} {P : Led} {v0 : Value} : Pure w 3 P (call (.ref 501) [v0]) fun P' r => ∃ x d t0, r = .ref x ∧ (x, instObj 501 d) ∈ P' ∧ (d, dictOf [ent w "facts" t0 v0] 1) ∈ P' := by
  intro c m own s Q E S hdp hu ret
  have X := S.X
  refine make (Out := fun cells P' r => ∃ x d t0, r = .ref x ∧ (x, instObj 501 d) ∈ P' ∧ cells = [(d, dictOf [ent w "facts" t0 v0] 1)]) (K := hd.heap_39 w.params) rfl (by k_is) (by k_is) (by k_is) (by k_is) (by k_is) S (by omega) (by exact fun x s => BindsTo.of_eq rfl) (by exact rfl) (by kernel_rfl) ?_ ?kr
  case kr =>
    rintro x cells P' s' S' hs ⟨y, d, t0, e, hm, rfl⟩
    cases e
    exact ret _ _ _ (St.settle S') (fun p hp => .tail _ (hs p hp)) ⟨_, _, _, rfl, .tail _ hm, .head _⟩
  intro c' s' x dx gN _ _ S'
  dsimp only [List.map] at S'
  k_offL
  refine sa (sat_Fixing w) (po_Fixing w) (tk_Fixing_facts w) (hh_Fixing w) (by assumption) (.head _) rfl (fun _ _ _ => rfl) rfl (Nat.le_of_ble_eq_true rfl) ?_
  intro s0 tk0 S0
  dsimp only
  k_offL
  exact ⟨_, _, [], _, S0, fun p hp => hp, rfl, rfl, _, _, _, rfl, .head _, rfl⟩

theorem FSet.mono {w : World} {P P' : Led} {F : Addr} {cn : Int → Nat} (hs : ∀ p ∈ P, p ∈ P') (h : FSet w P F cn) : FSet w P' F cn := by
  obtain ⟨dF, es, n, dS, o, kv, a1, a2, a3, a4, a5, a6⟩ := h
  exact ⟨dF, es, n, dS, o, kv, hs _ a1, hs _ a2, a3, hs _ a4, a5, a6⟩
theorem Built.ok {t : T} (h : Built t) : OkT (fun x => (setn t).count x) t :=
  ⟨⟨[], h.sc⟩, fun n hn => Nat.ne_of_gt (List.count_pos_iff.mpr hn), h.sz⟩
section
variable {w : World} {P : Led}
theorem fixed {a : Addr} {t : T} (hN : Nd w P a t) (hb : Built t) : Pure w 40 P (call (.ref 512) [.ref a]) fun P' r => TR w P' r (fixT (fun x => (setn t).count x) t) := by
  intro c m own s Q E S hdp hu ret
  have X := S.X
  refine wpAny_call ?_
  fold_lay
  clear ret S
  intro c' s' gN hd' hu' S'
  dsimp only [List.map] at S'
  have d30 : c'.A.depth + 30 < recursionLimit := by omega
  have u30 : c'.A.units + 8 * 30 < cLine := by omega
  have d20 : c'.A.depth + 20 < recursionLimit := by omega
  have u20 : c'.A.units + 8 * 20 < cLine := by omega
  have d3 : c'.A.depth + 3 < recursionLimit := by omega
  have u3 : c'.A.units + 8 * 3 < cLine := by omega
  clear hdp hu hd' hu'
  k_offL
  refine useP (facts_of (hN.mono fun p hp => .tail _ hp) (.head _) hb) (by assumption) d20 u20 ?_
  rintro r P1 s1 S1 hs1 ⟨F, rfl, hF⟩
  k_offL
  refine useP c_Fixing (by assumption) d3 u3 ?_
  rintro r P2 s2 S2 hs2 ⟨x, d, t0, rfl, hx1, hx2⟩
  k_offL
  refine kbm_bound S2.F S2.X S2.N (inst_at S2 hx1 hx2) (pg_Fixing w _) (hh_Fixing w) (fmt_501 w) (isfn_491 w) (by kernel_rfl) (by kernel_rfl) (by decide) rfl (fun q h' F' N' lt => ?_)
  have S3 := S2.addP (tk := s2.toks + 1) F' N' lt
  k_offL
  have to3 : ∀ p ∈ P, p ∈ (q, methodObj (.ref 491) (.ref x)) :: P2 := fun p hp => .tail _ (hs2 _ (hs1 _ (.tail _ hp)))
  refine useP (rebuilt_c (hN.mono to3) (.head _) ⟨d, t0, .tail _ hx1, .tail _ hx2⟩ (hF.mono fun p hp => .tail _ (hs2 _ hp)) hb.ok) S3 d30 u30 ?_
  intro r P4 s4 S4 hs4 hT
  k_offL
  exact ⟨_, [], [], P4, S4, fun p hp => hs4 _ (to3 p hp), rfl, hT⟩
end
theorem lookup1 {x : Str} {v : Value} {r : List (Str × NameKind)} : (fun y => List.lookup y [(x, v)].reverse) = asg ((x, .local) :: r) [some v] := by
  funext y
  show List.lookup y [(x, v)] = (if y = x then some v else asg r [] y)
  by_cases h : y = x
  · subst h; simp [List.lookup]
  · rw [if_neg h]
    have : (y == x) = false := by simpa using h
    simp [List.lookup, this, asg_nil]
theorem lawStart {w : World} {pp : Program} {loose : List Str} {mean : ExcName → Option Value} {mg mb : Str → Option Value} {h₀ : Heap} {L f : Addr} {cd : Value} {name x : Str} {r : List (Str × NameKind)} {mo : List (Str × Const)} {body : List Stmt} {v : Value} {s : Shared} {Q : Flow → Shared → Prop} {E : Value → Shared → Prop} (T : Top pp loose mean mg mb h₀) (gN : goodNs ((x, .local) :: r) = true) (KX : (hd.heap_39 w.params).In h₀) (K0 : Below callerA h₀ [] h₀) (F : Fr h₀ L s.heap fun y => List.lookup y [(x, v)].reverse)
    (h : ∀ c : Cx, goodNs ((x, .local) :: r) = true → c.g = h₀ → c.A.depth ≤ 310 → c.A.units ≤ 100 → St w c (asg ((x, .local) :: r) [some v]) [] [] s → wpAny (model PySem.Challenge.rw_pq1024_01.row.prog w) c.A (execs body (envX name (fnSc ((x, .local) :: r) mo) c.L f cd [])) (fun fl s' => fl = .ret (.bool true) ∧ ∃ m' own' P', St w c m' own' P' s') (fun _ _ => False) s)
    (hQ : ∀ c : Cx, c.g = h₀ → c.L = L → c.s0 = s → ∀ s' m' own' P', St w c m' own' P' s' → Q (.ret (.bool true)) s') :
    wpAny (model PySem.Challenge.rw_pq1024_01.row.prog w) (callerA.deeper (envOf name (fnSc ((x, .local) :: r) mo) L f cd)) (execs body (envOf name (fnSc ((x, .local) :: r) mo) L f cd)) Q E s := by
  let c : Cx := ⟨pp, loose, mean, mg, mb, callerA, h₀, [], h₀, L, callerA.deeper (envOf name (fnSc ((x, .local) :: r) mo) L f cd), s⟩
  rw [lookup1 (r := r)] at F
  have S : St w c (asg ((x, .local) :: r) [some v]) [] [] s := ⟨F, fun p hp => (nomatch hp), fun q hq => (nomatch hq), List.nodup_nil, KX, T, K0, rfl, ⟨_, Around.frames_deeper K0.stack, rfl, rfl⟩, rfl, rfl, rfl⟩
  refine wpAny_mono (h c gN rfl (show callerA.depth + 1 ≤ 310 by decide) (show callerA.units + 3 ≤ 100 by decide) S) (fun fl s' hh => ?_) fun _ _ e => e.elim
  obtain ⟨rfl, m', own', P', S'⟩ := hh
  exact hQ c rfl rfl rfl s' m' own' P' S'
theorem St.take {w : World} {c : Cx} {m : Str → Option Value} {own P : Led} {s : Shared} {D : Addr} {o : Obj} (S : St w c m own P s) (hm : (D, o) ∈ P) : St w c m ((D, o) :: own) (P.filter fun p => p.1 ≠ D) s := by
  refine ⟨S.F, fun p hp => ?_, fun q hq p hp => ?_, ?_, S.X, S.T, S.B, S.hh, S.fr, S.eg, S.ed, S.eo⟩
  · rcases List.mem_append.mp hp with hp | hp
    · rcases List.mem_cons.mp hp with rfl | hp
      · exact S.N _ (List.mem_append_right _ hm)
      · exact S.N _ (List.mem_append_left _ hp)
    · exact S.N _ (List.mem_append_right _ (List.mem_filter.mp hp).1)
  · obtain ⟨hp1, hp2⟩ := List.mem_filter.mp hp
    rcases List.mem_cons.mp hq with rfl | hq
    · simpa using hp2
    · exact S.ap q hq p hp1
  · refine List.nodup_cons.mpr ⟨fun h => ?_, S.nd⟩
    obtain ⟨q, hq, e⟩ := List.mem_map.mp h
    exact S.ap q hq _ hm e.symm

section
variable {w : World} {c : Cx} {own P : Led} {s : Shared} {E : Value → Shared → Prop} {Q : Value → Shared → Prop} {cn : Str} {ns : List (Str × NameKind)} {mo : List (Str × Const)} {vals : List (Option Value)} {a : Addr} {ccd : Value} {cl : List (Str × Addr)} {z1 z2 z3 z4 : Option Str}
theorem ev_local {n : Int} {z : Nat} {p1 p2 p3 : Pos} (S : St w c (asg ns vals) own P s) (gN : goodNs ns = true) (h1 : (Str.ofString "Local", NameKind.globalImplicit) ∈ ns) (hd : c.A.depth + 10 < recursionLimit) (hu : c.A.units + 100 < cLine)
    (h : ∀ r P' s', St w c (asg ns vals) own P' s' → (∀ p ∈ P, p ∈ P') → TR w P' r (.loc n) → Q r s') :
    wpAny (model PySem.Challenge.rw_pq1024_01.row.prog w) c.A (eval (.Call (.Name (Str.ofString "Local") p1) [.Constant (.int n) z p2] [] p3) (envX cn (fnSc ns mo) c.L a ccd cl)) Q E s := by
  refine call1 (x := Str.ofString "Local") S gN (g_Local _) (kp_Local _) h1 ?_ (by k_dflt rfl)
  refine ev_int S ?_
  intro s1 tk1 S1
  refine ⟨S1.kin, ?_⟩
  exact useP mk_loc S1 (by omega) (by omega) h
theorem ev_un {p1 p2 p3 : Pos} (S : St w c (asg ns vals) own P s) (gN : goodNs ns = true) (h1 : (Str.ofString "Const", NameKind.globalImplicit) ∈ ns) (h2 : (Str.ofString "UNASSIGNED", NameKind.globalImplicit) ∈ ns) (hd : c.A.depth + 10 < recursionLimit) (hu : c.A.units + 100 < cLine)
    (h : ∀ r P' s', St w c (asg ns vals) own P' s' → (∀ p ∈ P, p ∈ P') → TR w P' r .cun → Q r s') :
    wpAny (model PySem.Challenge.rw_pq1024_01.row.prog w) c.A (eval (.Call (.Name (Str.ofString "Const") p1) [.Name (Str.ofString "UNASSIGNED") p2] [] p3) (envX cn (fnSc ns mo) c.L a ccd cl)) Q E s := by
  refine call1 (x := Str.ofString "Const") S gN (g_Const _) (kp_Const _) h1 ?_ (by k_dflt rfl)
  refine ev_glob S gN (g_UNASSIGNED _) h2 ?_
  refine ⟨S.kin, ?_⟩
  exact useP mk_cun S (by omega) (by omega) h
theorem ev_setlam {n l k : Int} {z1 z2 z3 z4 : Nat} {p1 p2 p3 p4 p5 p6 p7 p8 p9 p10 p11 p12 : Pos} (S : St w c (asg ns vals) own P s) (gN : goodNs ns = true) (h1 : (Str.ofString "Local", NameKind.globalImplicit) ∈ ns) (h2 : (Str.ofString "Lambda", NameKind.globalImplicit) ∈ ns) (h3 : (Str.ofString "SetLocal", NameKind.globalImplicit) ∈ ns) (hd : c.A.depth + 10 < recursionLimit) (hu : c.A.units + 100 < cLine)
    (h : ∀ r P' s', St w c (asg ns vals) own P' s' → (∀ p ∈ P, p ∈ P') → TR w P' r (.setl n (.lam l [] (.loc k))) → Q r s') :
    wpAny (model PySem.Challenge.rw_pq1024_01.row.prog w) c.A (eval (.Call (.Name (Str.ofString "SetLocal") p1) [.Constant (.int n) z1 p2, .Call (.Name (Str.ofString "Lambda") p3) [.Constant (.int l) z2 p4, .List [] p5, .UnaryOp .USub (.Constant (.int 1) z3 p6) p7, .Call (.Name (Str.ofString "Local") p8) [.Constant (.int k) z4 p9] [] p10] [] p11] [] p12) (envX cn (fnSc ns mo) c.L a ccd cl)) Q E s := by
  refine call2 (x := Str.ofString "SetLocal") S gN (g_SetLocal _) (kp_SetLocal _) h3 ?_ (by k_dflt rfl) (by k_dflt rfl)
  refine ev_int S ?_
  intro s1 tk1 S1
  refine call4 (x := Str.ofString "Lambda") S1 gN (g_Lambda _) (kp_Lambda _) h2 ?_ (by k_dflt rfl) (by k_dflt rfl) (by k_dflt rfl) (by k_dflt rfl)
  refine ev_int S1 ?_
  intro s2 tk2 S2
  refine List_ ?_
  refine sp0 ?_
  refine nl S2 ?_ sl0
  intro Ln s3 S3
  refine UnaryOp_ ?_
  refine ev_int S3 ?_
  intro s4 tk4 S4
  refine negS S4 ?_
  intro s5 tk5 S5
  refine ev_local S5 gN h1 hd hu ?_
  intro r P1 s6 S6 hs6 hT
  refine ⟨S6.kin, ?_⟩
  refine useP (mk_lam (hs6 _ (.head _)) .nil hT) S6 (by omega) (by omega) ?_
  intro r2 P2 s7 S7 hs7 hT2
  refine ⟨S7.kin, ?_⟩
  refine useP (mk_setl hT2) S7 (by omega) (by omega) ?_
  intro r3 P3 s8 S8 hs8 hT3
  exact h r3 P3 s8 S8 (fun p hp => hs8 _ (hs7 _ (hs6 _ (.tail _ hp)))) hT3
end
def handT : T := .call (.lam 90 [91, 92] (.seq [.setl 91 (.lam 93 [] (.loc 92)), .call (.loc 91) [], .setl 92 (.lam 94 [] (.loc 91)), .loc 92])) [.cun, .cun]
def pairT : T := .call (.lam 95 [96, 97] (.seq [.setl 96 (.lam 98 [] (.loc 97)), .setl 97 (.lam 99 [] (.loc 96)), .loc 97])) [.cun, .cun]
/-- a tree that the law wraps and hands in -/
structure Bt (t : T) : Prop where
  b : Built (.lam 79 [80] t)
  s : t.size ≤ 1740
  d : t.dep ≤ 23
theorem bt_hand : Bt handT := ⟨⟨by simp [handT, Sc, Scs], by decide, by decide, by decide, by decide⟩, by decide, by decide⟩
theorem bt_pair : Bt pairT := ⟨⟨by simp [pairT, Sc, Scs], by decide, by decide, by decide, by decide⟩, by decide, by decide⟩
theorem bt_late {a b : Int} {t : T} (h : Bl [80] 1000 1000 a b t) (hs : t.size ≤ 1737) (hd : t.dep ≤ 22) : Bt t := by
  refine ⟨⟨h.sc, ?_, ?_, by simp only [T.size, List.length_singleton]; omega, by simp only [T.dep]; omega⟩, by omega, by omega⟩
  · show (79 :: labs t).Nodup
    exact List.nodup_cons.mpr ⟨fun hm => by have := (h.la.2 79 hm).1; omega, h.la.1⟩
  · show (80 :: binds t).Nodup
    exact List.nodup_cons.mpr ⟨fun hm => by have := (h.bi.2 80 hm).1; omega, h.bi.1⟩

theorem cw0 : PySem.Challenge.rw_pq1024_01.Holds := hd (by
  k_go0
  dsimp only
  rename_i KX _ _ _ T _ _ _ _ _ _ _ _ _ ns _ _ _ _ _ _ _ la us _ hL _ _ _ hI _ hcond _ K0 _ h₁ F N0
  rename World => w
  refine lawStart T (by kernel_rfl) KX K0 F ?_ ?_
  case refine_2 =>
    intro c hcg hcL hcs s' m' own' P' S
    dsimp only
    refine ⟨.inl ⟨_, .bool true, [], rfl, fun cls => ?_, ?_, ?_, fun _ => ⟨List.nodup_nil, fun a h => nomatch h⟩⟩, fun b o e => S.F.keep b o (hcg ▸ e), S.eo.trans (by rw [hcs]), S.eg.trans (by rw [hcs]; assumption)⟩
    · rfl
    · exact .bool _
    · kernel_rfl
  intro c gN hcg hdp hu S
  have hn63 : us.length ≤ 63 := by have := hI.length; omega
  have X := S.X
  have d1 : c.A.depth + 500 < recursionLimit := by show _ < 1000; omega
  have u1 : c.A.units + 4800 < cLine := by show _ < 9900; omega
  have d10 : c.A.depth + 10 < recursionLimit := by omega
  have u10 : c.A.units + 100 < cLine := by omega
  have d3 : c.A.depth + 3 < recursionLimit := by omega
  have u3 : c.A.units + 8 * 3 < cLine := by omega
  have hlc : c.g.IsList la us.toArray := by rw [hcg]; exact hL
  clear hdp hu
  k_offL
  refine Assign_Tuple_swapped ?_ (by k_dflt rfl) (by k_dflt rfl)
  have flag : OwnFlag := ⟨trivial⟩
  k_offL
  refine deck_of (by assumption) hlc hI hn63 (by omega) (by omega) ?_
  intro D xs n P1 s1 S1 hs1 hD hDk hDne
  k_offL
  clear flag
  refine unp2 (by assumption) (by k_mem) ?_
  intro s2 S2
  refine assignInOrder_cons (wpAny_bindName ?_)
  k_offL
  refine assignInOrder_cons (wpAny_bindName ?_)
  k_offL
  refine assignInOrder_nil ?_
  rename_i Lx _ _ _ _ _ _ _ _ Sa
  have S3 := Sa.take (List.mem_cons_of_mem _ hD)
  refine S3.abs fun P2 S4 _ => ?_
  clear S3 Sa S2 S1
  repeat ((fail_if_success (with_reducible first | (show wpAny _ _ (eval (Expr.Call (Expr.Name _ _) [Expr.Constant _ _ _] _ _) _) _ _ _) | (show wpAny _ _ (eval (Expr.Call (Expr.Name _ _) [Expr.Name _ _] _ _) _) _ _ _) | (show wpAny _ _ (eval (Expr.Call (Expr.Name _ _) [Expr.Constant _ _ _, _] _ _) _) _ _ _) | (show wpAny _ _ (subscriptTail _ _ _ _) _ _ _) | (show wpAny _ _ (call (Value.ref _) _) _ _ _) | (show wpAny _ _ (exec (Stmt.For _ _ _ _ _) _) _ _ _))); k_clsL)
  refine ev_setlam (by assumption) gN (by kat_tups) (by kat_tups) (by kat_tups) d10 u10 ?_
  intro r1 P3 s3 S5 hs3 hT1
  repeat ((fail_if_success (with_reducible first | (show wpAny _ _ (eval (Expr.Call (Expr.Name _ _) [Expr.Constant _ _ _] _ _) _) _ _ _) | (show wpAny _ _ (eval (Expr.Call (Expr.Name _ _) [Expr.Name _ _] _ _) _) _ _ _) | (show wpAny _ _ (eval (Expr.Call (Expr.Name _ _) [Expr.Constant _ _ _, _] _ _) _) _ _ _) | (show wpAny _ _ (subscriptTail _ _ _ _) _ _ _) | (show wpAny _ _ (call (Value.ref _) _) _ _ _) | (show wpAny _ _ (exec (Stmt.For _ _ _ _ _) _) _ _ _))); k_clsL)
  refine ev_setlam (by assumption) gN (by kat_tups) (by kat_tups) (by kat_tups) d10 u10 ?_
  intro r2 P4 s4 S6 hs4 hT2
  have hT1 := TR.mono _ _ _ _ hs4 hT1
  repeat ((fail_if_success (with_reducible first | (show wpAny _ _ (eval (Expr.Call (Expr.Name _ _) [Expr.Constant _ _ _] _ _) _) _ _ _) | (show wpAny _ _ (eval (Expr.Call (Expr.Name _ _) [Expr.Name _ _] _ _) _) _ _ _) | (show wpAny _ _ (eval (Expr.Call (Expr.Name _ _) [Expr.Constant _ _ _, _] _ _) _) _ _ _) | (show wpAny _ _ (subscriptTail _ _ _ _) _ _ _) | (show wpAny _ _ (call (Value.ref _) _) _ _ _) | (show wpAny _ _ (exec (Stmt.For _ _ _ _ _) _) _ _ _))); k_clsL)
  rename_i Lb _ _ _ _ _ _ _ _ _ _ _ _ _ Lv _ _ _ _ _ _ _ _ _ _ Sv
  refine Sv.abs fun P5 S7 hs5 => ?_
  have hLv := hs5 _ (.head _)
  have hLb := hs5 _ (.tail _ (.head _))
  have hT1 := TR.mono _ _ _ _ (fun p hp => hs5 _ (.tail _ (.tail _ hp))) hT1
  have hT2 := TR.mono _ _ _ _ (fun p hp => hs5 _ (.tail _ (.tail _ hp))) hT2
  clear Sv S6 S5 S4 hs5
  refine li_item (St.isListP (by assumption) hLb) (by decide) (by decide) (by rfl) ?_ (by k_dflt rfl)
  repeat ((fail_if_success (with_reducible first | (show wpAny _ _ (eval (Expr.Call (Expr.Name _ _) [Expr.Constant _ _ _] _ _) _) _ _ _) | (show wpAny _ _ (eval (Expr.Call (Expr.Name _ _) [Expr.Name _ _] _ _) _) _ _ _) | (show wpAny _ _ (eval (Expr.Call (Expr.Name _ _) [Expr.Constant _ _ _, _] _ _) _) _ _ _) | (show wpAny _ _ (subscriptTail _ _ _ _) _ _ _) | (show wpAny _ _ (call (Value.ref _) _) _ _ _) | (show wpAny _ _ (exec (Stmt.For _ _ _ _ _) _) _ _ _))); k_clsL)
  refine ev_local (by assumption) gN (by kat_tups) d10 u10 ?_
  intro r3 P6 s6 S8 hs6 hT3
  repeat ((fail_if_success (with_reducible first | (show wpAny _ _ (eval (Expr.Call (Expr.Name _ _) [Expr.Constant _ _ _] _ _) _) _ _ _) | (show wpAny _ _ (eval (Expr.Call (Expr.Name _ _) [Expr.Name _ _] _ _) _) _ _ _) | (show wpAny _ _ (eval (Expr.Call (Expr.Name _ _) [Expr.Constant _ _ _, _] _ _) _) _ _ _) | (show wpAny _ _ (subscriptTail _ _ _ _) _ _ _) | (show wpAny _ _ (call (Value.ref _) _) _ _ _) | (show wpAny _ _ (exec (Stmt.For _ _ _ _ _) _) _ _ _))); k_clsL)
  refine useP (mk_call (TR.mono _ _ _ _ (fun p hp => .tail _ hp) hT3) (.head _) .nil) (by assumption) d3 u3 ?_
  intro r4 P7 s7 S9 hs7 hT4
  have h67 : ∀ p ∈ P5, p ∈ P7 := fun p hp => hs7 _ (.tail _ (hs6 _ hp))
  have hLb := h67 _ hLb
  repeat ((fail_if_success (with_reducible first | (show wpAny _ _ (eval (Expr.Call (Expr.Name _ _) [Expr.Constant _ _ _] _ _) _) _ _ _) | (show wpAny _ _ (eval (Expr.Call (Expr.Name _ _) [Expr.Name _ _] _ _) _) _ _ _) | (show wpAny _ _ (eval (Expr.Call (Expr.Name _ _) [Expr.Constant _ _ _, _] _ _) _) _ _ _) | (show wpAny _ _ (subscriptTail _ _ _ _) _ _ _) | (show wpAny _ _ (call (Value.ref _) _) _ _ _) | (show wpAny _ _ (exec (Stmt.For _ _ _ _ _) _) _ _ _))); k_clsL)
  refine li_item (St.isListP (by assumption) hLb) (by decide) (by decide) (by rfl) ?_ (by k_dflt rfl)
  repeat ((fail_if_success (with_reducible first | (show wpAny _ _ (eval (Expr.Call (Expr.Name _ _) [Expr.Constant _ _ _] _ _) _) _ _ _) | (show wpAny _ _ (eval (Expr.Call (Expr.Name _ _) [Expr.Name _ _] _ _) _) _ _ _) | (show wpAny _ _ (eval (Expr.Call (Expr.Name _ _) [Expr.Constant _ _ _, _] _ _) _) _ _ _) | (show wpAny _ _ (subscriptTail _ _ _ _) _ _ _) | (show wpAny _ _ (call (Value.ref _) _) _ _ _) | (show wpAny _ _ (exec (Stmt.For _ _ _ _ _) _) _ _ _))); k_clsL)
  refine ev_local (by assumption) gN (by kat_tups) d10 u10 ?_
  intro r5 P8 s8 S10 hs8 hT5
  have h68 : ∀ p ∈ P5, p ∈ P8 := fun p hp => hs8 _ (h67 _ hp)
  repeat ((fail_if_success (with_reducible first | (show wpAny _ _ (eval (Expr.Call (Expr.Name _ _) [Expr.Constant _ _ _] _ _) _) _ _ _) | (show wpAny _ _ (eval (Expr.Call (Expr.Name _ _) [Expr.Name _ _] _ _) _) _ _ _) | (show wpAny _ _ (eval (Expr.Call (Expr.Name _ _) [Expr.Constant _ _ _, _] _ _) _) _ _ _) | (show wpAny _ _ (subscriptTail _ _ _ _) _ _ _) | (show wpAny _ _ (call (Value.ref _) _) _ _ _) | (show wpAny _ _ (exec (Stmt.For _ _ _ _ _) _) _ _ _))); k_clsL)
  refine useP (mk_seq (ts := [_, _, _, _]) (.head _) (Nds.of (.cons (TR.mono _ _ _ _ (fun p hp => .tail _ (h68 _ hp)) hT1) (.cons (TR.mono _ _ _ _ (fun p hp => .tail _ (hs8 _ hp)) hT4) (.cons (TR.mono _ _ _ _ (fun p hp => .tail _ (h68 _ hp)) hT2) (.cons (TR.mono _ _ _ _ (fun p hp => .tail _ hp) hT5) .nil)))))) (by assumption) d3 u3 ?_
  intro r6 P9 s9 S11 hs9 hT6
  repeat ((fail_if_success (with_reducible first | (show wpAny _ _ (eval (Expr.Call (Expr.Name _ _) [Expr.Constant _ _ _] _ _) _) _ _ _) | (show wpAny _ _ (eval (Expr.Call (Expr.Name _ _) [Expr.Name _ _] _ _) _) _ _ _) | (show wpAny _ _ (eval (Expr.Call (Expr.Name _ _) [Expr.Constant _ _ _, _] _ _) _) _ _ _) | (show wpAny _ _ (subscriptTail _ _ _ _) _ _ _) | (show wpAny _ _ (call (Value.ref _) _) _ _ _) | (show wpAny _ _ (exec (Stmt.For _ _ _ _ _) _) _ _ _))); k_clsL)
  refine useP (mk_lam (hs9 _ (.tail _ (h68 _ hLv))) (IntsAre.cons _ _ (IntsAre.cons _ _ .nil)) hT6) (by assumption) d3 u3 ?_
  intro r7 P10 s10 S12 hs10 hT7
  repeat ((fail_if_success (with_reducible first | (show wpAny _ _ (eval (Expr.Call (Expr.Name _ _) [Expr.Constant _ _ _] _ _) _) _ _ _) | (show wpAny _ _ (eval (Expr.Call (Expr.Name _ _) [Expr.Name _ _] _ _) _) _ _ _) | (show wpAny _ _ (eval (Expr.Call (Expr.Name _ _) [Expr.Constant _ _ _, _] _ _) _) _ _ _) | (show wpAny _ _ (subscriptTail _ _ _ _) _ _ _) | (show wpAny _ _ (call (Value.ref _) _) _ _ _) | (show wpAny _ _ (exec (Stmt.For _ _ _ _ _) _) _ _ _))); k_clsL)
  refine ev_un (by assumption) gN (by kat_tups) (by kat_tups) d10 u10 ?_
  intro r8 P11 s11 S13 hs11 hT8
  repeat ((fail_if_success (with_reducible first | (show wpAny _ _ (eval (Expr.Call (Expr.Name _ _) [Expr.Constant _ _ _] _ _) _) _ _ _) | (show wpAny _ _ (eval (Expr.Call (Expr.Name _ _) [Expr.Name _ _] _ _) _) _ _ _) | (show wpAny _ _ (eval (Expr.Call (Expr.Name _ _) [Expr.Constant _ _ _, _] _ _) _) _ _ _) | (show wpAny _ _ (subscriptTail _ _ _ _) _ _ _) | (show wpAny _ _ (call (Value.ref _) _) _ _ _) | (show wpAny _ _ (exec (Stmt.For _ _ _ _ _) _) _ _ _))); k_clsL)
  refine ev_un (by assumption) gN (by kat_tups) (by kat_tups) d10 u10 ?_
  intro r9 P12 s12 S14 hs12 hT9
  repeat ((fail_if_success (with_reducible first | (show wpAny _ _ (eval (Expr.Call (Expr.Name _ _) [Expr.Constant _ _ _] _ _) _) _ _ _) | (show wpAny _ _ (eval (Expr.Call (Expr.Name _ _) [Expr.Name _ _] _ _) _) _ _ _) | (show wpAny _ _ (eval (Expr.Call (Expr.Name _ _) [Expr.Constant _ _ _, _] _ _) _) _ _ _) | (show wpAny _ _ (subscriptTail _ _ _ _) _ _ _) | (show wpAny _ _ (call (Value.ref _) _) _ _ _) | (show wpAny _ _ (exec (Stmt.For _ _ _ _ _) _) _ _ _))); k_clsL)
  refine useP (mk_call (ts := [_, _]) (TR.mono _ _ _ _ (fun p hp => .tail _ (hs12 _ (hs11 _ hp))) hT7) (.head _) (Nds.of (.cons (TR.mono _ _ _ _ (fun p hp => .tail _ (hs12 _ hp)) hT8) (.cons (TR.mono _ _ _ _ (fun p hp => .tail _ hp) hT9) .nil)))) (by assumption) d3 u3 ?_
  intro vh P13 s13 S15 hs13 hH
  clear hT1 hT2 hT3 hT4 hT5 hT6 hT7 hT8 hT9 S14 S13 S12 S11 S10 S9 S8 S7
  change TR _ _ _ handT at hH
  repeat ((fail_if_success (with_reducible first | (show wpAny _ _ (eval (Expr.Call (Expr.Name _ _) [Expr.Constant _ _ _] _ _) _) _ _ _) | (show wpAny _ _ (eval (Expr.Call (Expr.Name _ _) [Expr.Name _ _] _ _) _) _ _ _) | (show wpAny _ _ (eval (Expr.Call (Expr.Name _ _) [Expr.Constant _ _ _, _] _ _) _) _ _ _) | (show wpAny _ _ (subscriptTail _ _ _ _) _ _ _) | (show wpAny _ _ (call (Value.ref _) _) _ _ _) | (show wpAny _ _ (exec (Stmt.For _ _ _ _ _) _) _ _ _))); k_clsL)
  rename_i Lw _ _ _ _ _ _ _ Sw
  refine Sw.abs fun P14 S16 hs14 => ?_
  have hLw := hs14 _ (.head _)
  have hH := TR.mono _ _ _ _ (fun p hp => hs14 _ (.tail _ hp)) hH
  clear Sw S15 hs14
  refine ev_setlam (by assumption) gN (by kat_tups) (by kat_tups) (by kat_tups) d10 u10 ?_
  intro r1 P15 s15 S17 hs15 hT1
  repeat ((fail_if_success (with_reducible first | (show wpAny _ _ (eval (Expr.Call (Expr.Name _ _) [Expr.Constant _ _ _] _ _) _) _ _ _) | (show wpAny _ _ (eval (Expr.Call (Expr.Name _ _) [Expr.Name _ _] _ _) _) _ _ _) | (show wpAny _ _ (eval (Expr.Call (Expr.Name _ _) [Expr.Constant _ _ _, _] _ _) _) _ _ _) | (show wpAny _ _ (subscriptTail _ _ _ _) _ _ _) | (show wpAny _ _ (call (Value.ref _) _) _ _ _) | (show wpAny _ _ (exec (Stmt.For _ _ _ _ _) _) _ _ _))); k_clsL)
  refine ev_setlam (by assumption) gN (by kat_tups) (by kat_tups) (by kat_tups) d10 u10 ?_
  intro r2 P16 s16 S18 hs16 hT2
  repeat ((fail_if_success (with_reducible first | (show wpAny _ _ (eval (Expr.Call (Expr.Name _ _) [Expr.Constant _ _ _] _ _) _) _ _ _) | (show wpAny _ _ (eval (Expr.Call (Expr.Name _ _) [Expr.Name _ _] _ _) _) _ _ _) | (show wpAny _ _ (eval (Expr.Call (Expr.Name _ _) [Expr.Constant _ _ _, _] _ _) _) _ _ _) | (show wpAny _ _ (subscriptTail _ _ _ _) _ _ _) | (show wpAny _ _ (call (Value.ref _) _) _ _ _) | (show wpAny _ _ (exec (Stmt.For _ _ _ _ _) _) _ _ _))); k_clsL)
  refine ev_local (by assumption) gN (by kat_tups) d10 u10 ?_
  intro r3 P17 s17 S19 hs17 hT3
  repeat ((fail_if_success (with_reducible first | (show wpAny _ _ (eval (Expr.Call (Expr.Name _ _) [Expr.Constant _ _ _] _ _) _) _ _ _) | (show wpAny _ _ (eval (Expr.Call (Expr.Name _ _) [Expr.Name _ _] _ _) _) _ _ _) | (show wpAny _ _ (eval (Expr.Call (Expr.Name _ _) [Expr.Constant _ _ _, _] _ _) _) _ _ _) | (show wpAny _ _ (subscriptTail _ _ _ _) _ _ _) | (show wpAny _ _ (call (Value.ref _) _) _ _ _) | (show wpAny _ _ (exec (Stmt.For _ _ _ _ _) _) _ _ _))); k_clsL)
  refine useP (mk_seq (ts := [_, _, _]) (.head _) (Nds.of (.cons (TR.mono _ _ _ _ (fun p hp => .tail _ (hs17 _ (hs16 _ hp))) hT1) (.cons (TR.mono _ _ _ _ (fun p hp => .tail _ (hs17 _ hp)) hT2) (.cons (TR.mono _ _ _ _ (fun p hp => .tail _ hp) hT3) .nil))))) (by assumption) d3 u3 ?_
  intro r6 P18 s18 S20 hs18 hT6
  repeat ((fail_if_success (with_reducible first | (show wpAny _ _ (eval (Expr.Call (Expr.Name _ _) [Expr.Constant _ _ _] _ _) _) _ _ _) | (show wpAny _ _ (eval (Expr.Call (Expr.Name _ _) [Expr.Name _ _] _ _) _) _ _ _) | (show wpAny _ _ (eval (Expr.Call (Expr.Name _ _) [Expr.Constant _ _ _, _] _ _) _) _ _ _) | (show wpAny _ _ (subscriptTail _ _ _ _) _ _ _) | (show wpAny _ _ (call (Value.ref _) _) _ _ _) | (show wpAny _ _ (exec (Stmt.For _ _ _ _ _) _) _ _ _))); k_clsL)
  have h18 : ∀ p ∈ P14, p ∈ P18 := fun p hp => hs18 _ (.tail _ (hs17 _ (hs16 _ (hs15 _ hp))))
  refine useP (mk_lam (h18 _ hLw) (IntsAre.cons _ _ (IntsAre.cons _ _ .nil)) hT6) (by assumption) d3 u3 ?_
  intro r7 P19 s19 S21 hs19 hT7
  repeat ((fail_if_success (with_reducible first | (show wpAny _ _ (eval (Expr.Call (Expr.Name _ _) [Expr.Constant _ _ _] _ _) _) _ _ _) | (show wpAny _ _ (eval (Expr.Call (Expr.Name _ _) [Expr.Name _ _] _ _) _) _ _ _) | (show wpAny _ _ (eval (Expr.Call (Expr.Name _ _) [Expr.Constant _ _ _, _] _ _) _) _ _ _) | (show wpAny _ _ (subscriptTail _ _ _ _) _ _ _) | (show wpAny _ _ (call (Value.ref _) _) _ _ _) | (show wpAny _ _ (exec (Stmt.For _ _ _ _ _) _) _ _ _))); k_clsL)
  refine ev_un (by assumption) gN (by kat_tups) (by kat_tups) d10 u10 ?_
  intro r8 P20 s20 S22 hs20 hT8
  repeat ((fail_if_success (with_reducible first | (show wpAny _ _ (eval (Expr.Call (Expr.Name _ _) [Expr.Constant _ _ _] _ _) _) _ _ _) | (show wpAny _ _ (eval (Expr.Call (Expr.Name _ _) [Expr.Name _ _] _ _) _) _ _ _) | (show wpAny _ _ (eval (Expr.Call (Expr.Name _ _) [Expr.Constant _ _ _, _] _ _) _) _ _ _) | (show wpAny _ _ (subscriptTail _ _ _ _) _ _ _) | (show wpAny _ _ (call (Value.ref _) _) _ _ _) | (show wpAny _ _ (exec (Stmt.For _ _ _ _ _) _) _ _ _))); k_clsL)
  refine ev_un (by assumption) gN (by kat_tups) (by kat_tups) d10 u10 ?_
  intro r9 P21 s21 S23 hs21 hT9
  repeat ((fail_if_success (with_reducible first | (show wpAny _ _ (eval (Expr.Call (Expr.Name _ _) [Expr.Constant _ _ _] _ _) _) _ _ _) | (show wpAny _ _ (eval (Expr.Call (Expr.Name _ _) [Expr.Name _ _] _ _) _) _ _ _) | (show wpAny _ _ (eval (Expr.Call (Expr.Name _ _) [Expr.Constant _ _ _, _] _ _) _) _ _ _) | (show wpAny _ _ (subscriptTail _ _ _ _) _ _ _) | (show wpAny _ _ (call (Value.ref _) _) _ _ _) | (show wpAny _ _ (exec (Stmt.For _ _ _ _ _) _) _ _ _))); k_clsL)
  refine useP (mk_call (ts := [_, _]) (TR.mono _ _ _ _ (fun p hp => .tail _ (hs21 _ (hs20 _ hp))) hT7) (.head _) (Nds.of (.cons (TR.mono _ _ _ _ (fun p hp => .tail _ (hs21 _ hp)) hT8) (.cons (TR.mono _ _ _ _ (fun p hp => .tail _ hp) hT9) .nil)))) (by assumption) d3 u3 ?_
  intro vp P22 s22 S24 hs22 hPr
  have hH := TR.mono _ _ _ _ (fun p hp => hs22 _ (.tail _ (hs21 _ (hs20 _ (hs19 _ (h18 _ hp)))))) hH
  clear hT1 hT2 hT3 hT6 hT7 hT8 hT9 S23 S22 S21 S20 S19 S18 S17 S16
  change TR _ _ _ pairT at hPr
  repeat ((fail_if_success (with_reducible first | (show wpAny _ _ (eval (Expr.Call (Expr.Name _ _) [Expr.Constant _ _ _] _ _) _) _ _ _) | (show wpAny _ _ (eval (Expr.Call (Expr.Name _ _) [Expr.Name _ _] _ _) _) _ _ _) | (show wpAny _ _ (eval (Expr.Call (Expr.Name _ _) [Expr.Constant _ _ _, _] _ _) _) _ _ _) | (show wpAny _ _ (subscriptTail _ _ _ _) _ _ _) | (show wpAny _ _ (call (Value.ref _) _) _ _ _) | (show wpAny _ _ (exec (Stmt.For _ _ _ _ _) _) _ _ _))); k_clsL)
  refine For_ (by assumption) ?_ (by k_dflt exact fun _ => rfl)
  k_offL
  rename_i Lk _ _ _ _ Sk
  refine Sk.abs fun P23 S25 hs23 => ?_
  have hLk := hs23 _ (.head _)
  have hH := TR.mono _ _ _ _ (fun p hp => hs23 _ (.tail _ hp)) hH
  have hPr := TR.mono _ _ _ _ (fun p hp => hs23 _ (.tail _ hp)) hPr
  clear Sk S24 hs23
  refine late_all _ c _ _ _ _ _ _ D Lx 1000 1000 Lk _ _ [80] _ ⟨xs, n, _, _, _, (by assumption), hDk⟩ hLk (.cons _ _ .nil) (by exact Nat.one_pos) (by exact Nat.le_of_ble_eq_true rfl) (by omega) (by omega) ?_
  intro vl P24 s24 a' b' tl B hs24 hTl hBl hsl hdl
  obtain ⟨xs', n', e', t1, t2, S26, hD'⟩ := B
  have hH := TR.mono _ _ _ _ hs24 hH
  have hPr := TR.mono _ _ _ _ hs24 hPr
  clear S25
  k_offL
  rename_i Ll s25 S27
  have hall : ∀ (i : Nat) (v : Value), [vh, vp, vl][i]? = some v → ∃ t, TR w P24 v t ∧ Bt t := by
    intro i v hv
    match i with
    | 0 => cases hv; exact ⟨_, hH, bt_hand⟩
    | 1 => cases hv; exact ⟨_, hPr, bt_pair⟩
    | 2 => cases hv; exact ⟨_, hTl, bt_late hBl hsl hdl⟩
    | k + 3 => simp at hv
  refine forL (vals := [some (.ref la), some (.ref D), some (.ref Lx), some (.ref Lb), some vh, some vp, none, none]) (vs := [vh, vp, vl]) (St.pad 2 (vs := [some (.ref la), some (.ref D), some (.ref Lx), some (.ref Lb), some vh, some vp]) S27) gN (.head _) (fun i vals₁ own₁ P₁ => (∃ v1 v2, vals₁ = [some (.ref la), some (.ref D), some (.ref Lx), some (.ref Lb), some vh, some vp, v1, v2]) ∧ (∀ p ∈ P24, p ∈ P₁)) ⟨⟨_, _, rfl⟩, fun p hp => .tail _ hp⟩ ?_ ?_
  · rintro i v vals₁ own₁ P₁ P₁' W s₁ hi hv ⟨⟨v1, v2, rfl⟩, hP1⟩ S hs
    obtain ⟨t, hT, hB⟩ := hall i v hv
    keq_hits
    intro s2 S2
    k_offL
    refine useP (mk_lam (.head _) (IntsAre.cons _ _ .nil) (TR.mono _ _ _ _ (fun p hp => .tail _ (hs _ (hP1 _ hp))) hT)) (by assumption) d3 u3 ?_
    rintro rn P3 s3 S3 hs3 ⟨an, rfl, hN⟩
    have hz := hB.s
    have hd := hB.d
    have hz1 : (Mine.T.lam 79 [80] t).size ≤ 1742 := by simp only [Mine.T.size, List.length_singleton]; omega
    have hd1 : (Mine.T.lam 79 [80] t).dep ≤ 24 := by simp only [Mine.T.dep]; omega
    obtain ⟨tw, htw⟩ : ∃ tw, tw = Mine.T.lam 79 [80] t := ⟨_, rfl⟩
    have hBb := hB.b
    rw [← htw] at hN hz1 hd1 hBb
    have hz2 := size_fixT (fun x => (setn tw).count x) tw
    have hd2 := dep_fixT (fun x => (setn tw).count x) tw
    k_offL
    refine useP (told tw an hN (by omega)) (by assumption) (by omega) (by omega) ?_
    intro ra P4 s4 S4 hs4 hA
    k_offL
    refine useP (fixed (hN.mono hs4) hBb) (by assumption) (by omega) (by omega) ?_
    rintro r P5 s5 S5 hs5 ⟨af, rfl, hF⟩
    k_offL
    refine useP (told _ af hF (by omega)) (by assumption) (by omega) (by omega) ?_
    intro rf P6 s6 S6 hs6 hR
    have hA6 := hA.mono fun p hp => hs6 _ (hs5 _ hp)
    k_offL
    refine useP (due_of (W := tw) (cn := fun x => (setn tw).count x) tw ra hA6 hA6 (fun _ => rfl) (by omega) hBb.ok) (by assumption) (by omega) (by omega) ?_
    intro rd P7 s7 S7 hs7 hDd
    repeat ((fail_if_success (with_reducible first | (show wpAny _ _ (call (Value.ref _) _) _ _ _) | (show wpAny _ _ (compareOp _ _ _) _ _ _))); k_clsL)
    refine neDat 98 98 (by assumption) (hR.mono hs7) (fun _ h => h) hDd (fun _ h => h) (kqd_tell _ 96 (by omega)) (kqd_tell _ 96 (by omega)) (by omega) ?_
    intro bb hbb
    have hb := hbb.mpr rfl
    subst hb
    k_offL
    refine useP (told tw an (hN.mono fun p hp => hs7 _ (hs6 _ (hs5 _ (hs4 _ hp)))) (by omega)) (by assumption) (by omega) (by omega) ?_
    intro rg P8 s8 S8 hs8 hG
    repeat ((fail_if_success (with_reducible first | (show wpAny _ _ (call (Value.ref _) _) _ _ _) | (show wpAny _ _ (compareOp _ _ _) _ _ _))); k_clsL)
    refine neDat 98 98 (by assumption) hG (fun _ h => h) (hA6.mono fun p hp => hs8 _ (hs7 _ hp)) (fun _ h => h) (kqd_tell _ 96 (by omega)) (kqd_tell _ 96 (by omega)) (by omega) ?_
    intro bb hbb
    have hb := hbb.mpr rfl
    subst hb
    k_offL
    refine ⟨_, _, P8, (by assumption), fun p hp => hs8 _ (hs7 _ (hs6 _ (hs5 _ (hs4 _ (hs3 _ (.tail _ hp)))))), ⟨_, _, rfl⟩, fun p hp => hs8 _ (hs7 _ (hs6 _ (hs5 _ (hs4 _ (hs3 _ (.tail _ (hs _ (hP1 _ hp))))))))⟩
  · rintro vals' own' P' s3 S3 ⟨⟨v1, v2, rfl⟩, hP1⟩
    dsimp only
    k_offL
    exact ⟨rfl, _, _, _, by assumption⟩)
end Mine
end
theorem PySem.Challenge.cw_pq1024_01_holds : PySem.Challenge.rw_pq1024_01.Holds := by
  exact Mine.cw0
