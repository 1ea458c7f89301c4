import PyProof.Rows.All
import Wide.All
import OpenK.AllK
import Wide.FinOn
import HandS.ForMost
import HandS.ForExc
import HandS.Walk
import HandS.Flow
import HandS.TupAny
import HandS.TupMul
import HandS.TupLe
import HandS.Deep
import HandS.IsInst
import HandS.StrMore
import HandS.StrSplit
import HandS.Conv
import HandS.Zip
import KE.GoesMore
import KE.DataCmp
import HandS.HeadHook2
import KE.SortData
import HandS.ExcIs
import HandS.SetFor
import KE.LtData
import HandS.ReplaceLit
import HandS.Set
import HandS.Strs
import PyProof.WalksMore
import HandS.TryOnly
import HandS.TupSets
import HandS.JoinGen
import PySem.Challenge.RW_longbook_k01_books
import KE.OsSort
import HandS.HeadEnd
import HandS.Head0
import HandS.Head1
import HandS.Head2
set_option Elab.async false
set_option linter.all false
set_option maxRecDepth 100000
set_option maxHeartbeats 0
namespace L3
open PySem PySem.Spec PyProof.Rows L2

/-! ### results -/
inductive R (α : Type) where
  | ok (a : α)
  | exc (c : Str)
  | bad
def R.bind {α β : Type} (r : R α) (f : α → R β) : R β := match r with
  | .ok a => f a
  | .exc c => .exc c
  | .bad => .bad
theorem R.ok_bind {α β : Type} (a : α) (f : α → R β) : (R.ok a).bind f = f a := rfl
theorem R.exc_bind {α β : Type} (c : Str) (f : α → R β) : (R.exc c : R α).bind f = .exc c := rfl
theorem R.bad_bind {α β : Type} (f : α → R β) : (R.bad : R α).bind f = .bad := rfl
def Post {α : Type} (r : R α) (k : α → Prop) (e : Str → Prop) : Prop := match r with
  | .ok a => k a
  | .exc c => e c
  | .bad => False
theorem Post.bind {α β : Type} {r : R α} {f : α → R β} {k : β → Prop} {e : Str → Prop} (h : Post (r.bind f) k e) : Post r (fun a => Post (f a) k e) e := by
  cases r <;> exact h
theorem Post.mk {α β : Type} {r : R α} {f : α → R β} {k : β → Prop} {e : Str → Prop} (h : Post r (fun a => Post (f a) k e) e) : Post (r.bind f) k e := by
  cases r <;> exact h
theorem Post.mono {α : Type} {r : R α} {k k' : α → Prop} {e e' : Str → Prop} (h : Post r k e) (hk : ∀ a, k a → k' a) (he : ∀ c, e c → e' c) : Post r k' e' := by
  cases r with
  | ok a => exact hk a h
  | exc c => exact he c h
  | bad => exact h
theorem Post.noexc {α : Type} {r : R α} {k : α → Prop} {e : Str → Prop} (h : Post r k fun _ => False) : Post r k e := h.mono (fun _ x => x) fun _ x => x.elim

/-! ### data in the heap -/
mutual
inductive Dq (F : Hp) : V → PyData → Prop
  | non : Dq F .non .none
  | bl (b : Bool) : Dq F (.bl b) (.bool b)
  | int (i : Int) : Dq F (.int i) (.int i)
  | str (x : Str) : Dq F (.str x) (.str x)
  | lst {a : Addr} {xs : List V} {ds : List PyData} : F a = some (.lst xs) → DqA F xs ds → Dq F (.ref a) (.list ds)
  | tup {a : Addr} {xs : List V} {ds : List PyData} : F a = some (.tup xs) → DqA F xs ds → Dq F (.ref a) (.tuple ds)
inductive DqA (F : Hp) : List V → List PyData → Prop
  | nil : DqA F [] []
  | cons {v : V} {vs : List V} {d : PyData} {ds : List PyData} : Dq F v d → DqA F vs ds → DqA F (v :: vs) (d :: ds)
end
section
variable {F G H : Hp} {K : PySem.W.Frag}
mutual
theorem Dq.mono (h : Same F G) : ∀ (d : PyData) (v : V), Dq F v d → Dq G v d
  | .none, _, q => by cases q; exact .non
  | .bool b, _, q => by cases q; exact .bl b
  | .int i, _, q => by cases q; exact .int i
  | .str x, _, q => by cases q; exact .str x
  | .list ds, _, q => by
    cases q with
    | lst hs ha => exact .lst (h _ _ hs) (DqA.mono h ds _ ha)
  | .tuple ds, _, q => by
    cases q with
    | tup hs ha => exact .tup (h _ _ hs) (DqA.mono h ds _ ha)
  | .dict _, _, q => by cases q
theorem DqA.mono (h : Same F G) : ∀ (ds : List PyData) (vs : List V), DqA F vs ds → DqA G vs ds
  | [], _, q => by cases q; exact .nil
  | d :: ds, _, q => by
    cases q with
    | cons h1 h2 => exact .cons (Dq.mono h d _ h1) (DqA.mono h ds _ h2)
end
mutual
theorem Dq.dp (h : Same F H) : ∀ (d : PyData) (v : V), Dq F v d → Dp K H v d
  | .none, _, q => by cases q; exact .non
  | .bool b, _, q => by cases q; exact .bl b
  | .int i, _, q => by cases q; exact .int i
  | .str x, _, q => by cases q; exact .str x
  | .list ds, _, q => by
    cases q with
    | lst hs ha => exact .lst (.inl (.inl (h _ _ hs))) (DqA.dp h ds _ ha)
  | .tuple ds, _, q => by
    cases q with
    | tup hs ha => exact .tup (.inl (.inl (h _ _ hs))) (DqA.dp h ds _ ha)
  | .dict _, _, q => by cases q
theorem DqA.dp (h : Same F H) : ∀ (ds : List PyData) (vs : List V), DqA F vs ds → DpAll K H vs ds
  | [], _, q => by cases q; exact .nil
  | d :: ds, _, q => by
    cases q with
    | cons h1 h2 => exact .cons (Dq.dp h d _ h1) (DqA.dp h ds _ h2)
end
theorem DqA.length : ∀ {ds : List PyData} {vs : List V}, DqA F vs ds → vs.length = ds.length
  | [], _, q => by cases q; rfl
  | d :: ds, _, q => by
    cases q with
    | cons h1 h2 => show _ + 1 = _ + 1; rw [DqA.length h2]
theorem DqA.append : ∀ {ds es : List PyData} {vs ws : List V}, DqA F vs ds → DqA F ws es → DqA F (vs ++ ws) (ds ++ es)
  | [], _, _, _, q, q' => by cases q; exact q'
  | d :: ds, _, _, _, q, q' => by
    cases q with
    | cons h1 h2 => exact .cons h1 (DqA.append h2 q')
theorem DqA.get : ∀ {ds : List PyData} {vs : List V} {i : Nat} {d : PyData}, DqA F vs ds → ds[i]? = some d → ∃ v, vs[i]? = some v ∧ Dq F v d
  | [], _, _, _, _, e => by simp at e
  | d :: ds, _, 0, _, q, e => by
    cases q with
    | cons h1 h2 => simp at e; subst e; exact ⟨_, rfl, h1⟩
  | d :: ds, _, i + 1, _, q, e => by
    cases q with
    | cons h1 h2 =>
      obtain ⟨v, e1, e2⟩ := DqA.get (i := i) h2 (by simpa using e)
      exact ⟨v, by simpa using e1, e2⟩
theorem DqA.take : ∀ {ds : List PyData} {vs : List V} (n : Nat), DqA F vs ds → DqA F (vs.take n) (ds.take n)
  | _, _, 0, _ => .nil
  | [], _, n + 1, q => by cases q; exact .nil
  | d :: ds, _, n + 1, q => by
    cases q with
    | cons h1 h2 => exact .cons h1 (DqA.take n h2)
theorem DqA.drop : ∀ {ds : List PyData} {vs : List V} (n : Nat), DqA F vs ds → DqA F (vs.drop n) (ds.drop n)
  | _, _, 0, q => q
  | [], _, n + 1, q => by cases q; exact .nil
  | d :: ds, _, n + 1, q => by
    cases q with
    | cons h1 h2 => exact DqA.drop n h2
theorem DqA.ints : ∀ {ns : List Int} {vs : List V}, DqA F vs (ns.map PyData.int) → vs = ns.map V.int
  | [], _, q => by cases q; rfl
  | n :: ns, _, q => by
    cases q with
    | cons h1 h2 => cases h1; rw [DqA.ints h2]; rfl
theorem DqA.strs : ∀ {ns : List Str} {vs : List V}, DqA F vs (ns.map PyData.str) → vs = ns.map V.str
  | [], _, q => by cases q; rfl
  | n :: ns, _, q => by
    cases q with
    | cons h1 h2 => cases h1; rw [DqA.strs h2]; rfl
theorem DqA.bools : ∀ {ns : List Bool} {vs : List V}, DqA F vs (ns.map PyData.bool) → vs = ns.map V.bl
  | [], _, q => by cases q; rfl
  | n :: ns, _, q => by
    cases q with
    | cons h1 h2 => cases h1; rw [DqA.bools h2]; rfl
theorem DqA.flatten_rep : ∀ {ds : List PyData} {vs : List V} (n : Nat), DqA F vs ds → DqA F (List.replicate n vs).flatten (List.replicate n ds).flatten
  | _, _, 0, _ => .nil
  | _, _, n + 1, q => by
    rw [List.replicate_succ, List.replicate_succ, List.flatten_cons, List.flatten_cons]
    exact q.append (DqA.flatten_rep n q)
end

/-- the frozen part grows with the heap -/
structure Grow (F H F' H' : Hp) : Prop where
  f : Same F F'
  h : Same H H'
  fh : Same F' H'
  nw : ∀ a o, F' a = some o → F a = some o ∨ H a = none
theorem Grow.refl {F H : Hp} (h : Same F H) : Grow F H F H := ⟨Same.refl _, Same.refl _, h, fun _ _ q => .inl q⟩
theorem Grow.trans {F H F1 H1 F2 H2 : Hp} (a : Grow F H F1 H1) (b : Grow F1 H1 F2 H2) : Grow F H F2 H2 :=
  ⟨a.f.trans b.f, a.h.trans b.h, b.fh, fun c o q => by
    rcases b.nw c o q with q | q
    · exact a.nw c o q
    · exact .inr (a.h.free q)⟩
theorem same_upd {F H : Hp} {p : Addr} {o : HO} (h : Same F H) (np : H p = none) : Same F (upd F p o) := fun b x e => by
  rw [upd_ne (ne_of_none (h b x e) np)]; exact e
theorem same_upd2 {F H : Hp} {p : Addr} {o : HO} (h : Same F H) : Same (upd F p o) (upd H p o) := fun b x e => by
  by_cases hb : b = p
  · subst hb; rw [upd_same] at e ⊢; exact e
  · rw [upd_ne hb] at e ⊢; exact h b x e
theorem Grow.new {F H : Hp} {p : Addr} {o : HO} (h : Same F H) (np : H p = none) : Grow F H (upd F p o) (upd H p o) :=
  ⟨same_upd h np, same_upd (Same.refl H) np, same_upd2 h, fun a u q => by
    by_cases ha : a = p
    · subst ha; exact .inr np
    · rw [upd_ne ha] at q; exact .inl q⟩

/-! ### slots -/
/-- a field of an instance: data, or a list of its own -/
inductive Fld where
  | d (x : PyData)
  | l (xs : List PyData)
/-- greater things that a frame has alone: a list of lists of its own, a dict with texts as keys, an instance -/
inductive Big where
  | pgs (xss : List (List PyData))
  | dct (kvs : List (Str × PyData))
  | dtp (kvs : List ((Int × Int) × PyData))
  | ins (c : Str) (fs : List (Str × Fld))
inductive Sl where
  | emp
  | val (d : PyData)
  | own (xs : List PyData)
  | scr (ns : List Int)
  | exc (c : Str)
  | big (b : Big)
  | slf (b : Big)
  | bor (b : Big)
abbrev Ev := List Sl
def sget (env : Ev) (i : Nat) : Sl := env.getD i .emp
abbrev Mg := Str → Option Value
def cav (mg : Mg) (c : Str) : Value := (mg c).getD .none
/-- an exception of the class cls -/
def IsExc (a : Addr) (cls : Value) : HO := .ext fun h => ∃ o vs, h.get? a = some o ∧ o.cls = cls ∧ o.dict = none ∧ o.data = .fields vs
/-- the script: never written -/
def ScrAt (K : PySem.W.Frag) (H : Hp) (a : Addr) (xs : List V) : Prop := (∃ o, H a = some (.frz o (.lst xs))) ∨ SqL K (fun _ => none) a xs
theorem ScrAt.mono {K : PySem.W.Frag} {H H' : Hp} {a : Addr} {xs : List V} (e : Same H H') (h : ScrAt K H a xs) : ScrAt K H' a xs := by
  rcases h with ⟨o, h⟩ | h
  · exact .inl ⟨o, e _ _ h⟩
  · exact .inr h
theorem ScrAt.seq {K : PySem.W.Frag} {H : Hp} {a : Addr} {xs : List V} (h : ScrAt K H a xs) : SqL K H a xs := by
  rcases h with ⟨o, h⟩ | h
  · exact .inl (.inr ⟨o, h⟩)
  · exact Same.seq (fun _ _ z => by cases z) h
def refOf : V → Option Addr
  | .ref a => some a
  | _ => none
/-- where the parts of a greater thing at a stand -/
def fpOf (H : Hp) (a : Addr) : Big → List Addr
  | .pgs _ => a :: (match H a with
    | some (.lst vs) => vs.filterMap refOf
    | _ => [])
  | .dct _ => [a]
  | .dtp _ => [a]
  | .ins _ fs => a :: (match H a with
    | some (.ins _ dx gs) => dx :: fs.filterMap fun f => (match f.2 with
      | .l _ => (gs.lookup f.1).bind refOf
      | .d _ => none)
    | _ => [])
/-- lists at addresses -/
inductive PgA (F H : Hp) : List Addr → List (List PyData) → Prop
  | nil : PgA F H [] []
  | cons {p : Addr} {ps : List Addr} {vs : List V} {xs : List PyData} {xss : List (List PyData)} : H p = some (.lst vs) → DqA F vs xs → PgA F H ps xss → PgA F H (p :: ps) (xs :: xss)
inductive KvA (F : Hp) : List (Key × V) → List (Str × PyData) → Prop
  | nil : KvA F [] []
  | cons {x : Str} {v : V} {d : PyData} {ks : List (Key × V)} {kvs : List (Str × PyData)} : Dq F v d → KvA F ks kvs → KvA F ((.inr x, v) :: ks) ((x, d) :: kvs)
inductive KvT (F : Hp) : List (List Key × V) → List ((Int × Int) × PyData) → Prop
  | nil : KvT F [] []
  | cons {i j : Int} {v : V} {d : PyData} {ks : List (List Key × V)} {kvs : List ((Int × Int) × PyData)} : Dq F v d → KvT F ks kvs → KvT F (([.inl i, .inl j], v) :: ks) (((i, j), d) :: kvs)
def FldR (F H : Hp) (v : V) : Fld → Prop
  | .d x => Dq F v x
  | .l xs => ∃ p vs, v = .ref p ∧ H p = some (.lst vs) ∧ DqA F vs xs
def BigR (mg : Mg) (F H : Hp) (a : Addr) : Big → Prop
  | .pgs xss => ∃ ps, H a = some (.lst (ps.map V.ref)) ∧ PgA F H ps xss
  | .dct kvs => ∃ ks, H a = some (.dK ks) ∧ KvA F ks kvs
  | .dtp kvs => ∃ ks, H a = some (.dT ks) ∧ KvT F ks kvs
  | .ins c fs => ∃ C dx gs, mg c = some (.ref C) ∧ H a = some (.ins C dx gs) ∧ H dx = some (.own a) ∧ gs.map (·.1) = fs.map (·.1) ∧ ∀ f ∈ fs, ∃ v, gs.lookup f.1 = some v ∧ FldR F H v f.2
/-- the heap that stays as it is, and where a def's own first argument stands -/
structure G0 where
  hp : Hp
  sa : Addr
instance : CoeFun G0 (fun _ => Addr → Option HO) := ⟨G0.hp⟩
instance : Coe G0 Hp := ⟨G0.hp⟩
def SlotR (K : PySem.W.Frag) (mg : Mg) (H0 : G0) (F H : Hp) : Sl → Option V → Prop
  | .emp, _ => True
  | .val d, w => ∃ v, w = some v ∧ Dq F v d
  | .own xs, w => ∃ a vs, w = some (.ref a) ∧ H0 a = none ∧ F a = none ∧ H a = some (.lst vs) ∧ DqA F vs xs
  | .scr ns, w => ∃ a, w = some (.ref a) ∧ ScrAt K H a (ns.map V.int)
  | .exc c, w => ∃ a, w = some (.ref a) ∧ F a = some (IsExc a (cav mg c))
  | .big b, w => ∃ a, w = some (.ref a) ∧ BigR mg F H a b ∧ (fpOf H a b).Nodup ∧ ∀ x ∈ fpOf H a b, H0 x = none ∧ F x = none ∧ ∃ o, H x = some o ∧ ∀ ob u, o ≠ .frz ob u
  | .slf b, w => ∃ a, w = some (.ref a) ∧ a = H0.sa ∧ BigR mg F H a b ∧ (fpOf H a b).Nodup ∧ ∀ x ∈ fpOf H a b, H0 x = none ∧ F x = none ∧ ∃ o, H x = some o ∧ ∀ ob u, o ≠ .frz ob u
  | .bor b, w => ∃ a, w = some (.ref a) ∧ BigR mg F H a b ∧ ∀ x ∈ fpOf H a b, ∃ o, H x = some o ∧ H0 x = some o
/-- x is a part of what the slot has alone -/
def InFp (H : Hp) : Sl → Option V → Addr → Prop
  | .own _, some (.ref a), x => x = a
  | .big b, some (.ref a), x => x ∈ fpOf H a b
  | .slf b, some (.ref a), x => x ∈ fpOf H a b
  | _, _, _ => False
structure Rl (K : PySem.W.Frag) (mg : Mg) (H0 : G0) (env : Ev) (σ : L2.St) (F H : Hp) : Prop where
  fh : Same F H
  len : env.length = σ.length
  sl : ∀ (i : Nat) (s : Sl) (w : Option V), env[i]? = some s → σ[i]? = some w → SlotR K mg H0 F H s w
  ap : ∀ (i j : Nat) (s t : Sl) (w u : Option V) (x : Addr), i ≠ j → env[i]? = some s → env[j]? = some t → σ[i]? = some w → σ[j]? = some u → InFp H s w x → ¬ InFp H t u x
section
variable {K : PySem.W.Frag} {mg : Mg} {H0 : G0} {env : Ev} {σ : L2.St} {F H F' H' : Hp}
theorem fpOf_congr {a : Addr} {b : Big} (e : H' a = H a) : fpOf H' a b = fpOf H a b := by
  cases b <;> simp only [fpOf, e]
theorem fpOf_self {a : Addr} {b : Big} : a ∈ fpOf H a b := by
  cases b <;> exact List.mem_cons_self
theorem PgA.kept (hF : Same F F') : ∀ {ps : List Addr} {xss : List (List PyData)}, (∀ p ∈ ps, ∀ o, H p = some o → H' p = some o) → PgA F H ps xss → PgA F' H' ps xss
  | _, _, _, .nil => .nil
  | p :: ps, _, k, .cons h q r => .cons (k p List.mem_cons_self _ h) (q.mono hF) (PgA.kept hF (fun p' hp => k p' (List.mem_cons_of_mem _ hp)) r)
theorem KvA.mono (hF : Same F F') : ∀ {ks : List (Key × V)} {kvs : List (Str × PyData)}, KvA F ks kvs → KvA F' ks kvs
  | _, _, .nil => .nil
  | _, _, .cons h r => .cons (h.mono hF) (KvA.mono hF r)
theorem KvT.mono (hF : Same F F') : ∀ {ks : List (List Key × V)} {kvs : List ((Int × Int) × PyData)}, KvT F ks kvs → KvT F' ks kvs
  | _, _, .nil => .nil
  | _, _, .cons h r => .cons (h.mono hF) (KvT.mono hF r)
theorem refs_filterMap : ∀ ps : List Addr, (ps.map V.ref).filterMap refOf = ps
  | [] => rfl
  | p :: ps => by rw [List.map_cons, List.filterMap_cons]; show p :: _ = _; rw [refs_filterMap ps]
theorem fpOf_pgs {a : Addr} {ps : List Addr} {xss : List (List PyData)} (h : H a = some (.lst (ps.map V.ref))) : fpOf H a (.pgs xss) = a :: ps := by
  simp only [fpOf, h, refs_filterMap]
theorem fpOf_ins {a C dx : Addr} {c : Str} {gs : List (Str × V)} {fs : List (Str × Fld)} (h : H a = some (.ins C dx gs)) : fpOf H a (.ins c fs) = a :: dx :: fs.filterMap fun f => (match f.2 with
      | .l _ => (gs.lookup f.1).bind refOf
      | .d _ => none) := by
  simp only [fpOf, h]
theorem BigR.kept {a : Addr} {b : Big} (h : BigR mg F H a b) (hF : Same F F') (k : ∀ x ∈ fpOf H a b, ∀ o, H x = some o → H' x = some o) : BigR mg F' H' a b := by
  cases b with
  | pgs xss =>
    obtain ⟨ps, e, q⟩ := h
    rw [fpOf_pgs e] at k
    exact ⟨ps, k a List.mem_cons_self _ e, q.kept hF fun p hp => k p (List.mem_cons_of_mem _ hp)⟩
  | dct kvs =>
    obtain ⟨ks, e, q⟩ := h
    exact ⟨ks, k a List.mem_cons_self _ e, q.mono hF⟩
  | dtp kvs =>
    obtain ⟨ks, e, q⟩ := h
    exact ⟨ks, k a List.mem_cons_self _ e, q.mono hF⟩
  | ins c fs =>
    obtain ⟨C, dx, gs, e1, e2, e3, ek, q⟩ := h
    rw [fpOf_ins e2] at k
    refine ⟨C, dx, gs, e1, k a List.mem_cons_self _ e2, k dx (List.mem_cons_of_mem _ List.mem_cons_self) _ e3, ek, fun f hf => ?_⟩
    obtain ⟨v, h1, h2⟩ := q f hf
    refine ⟨v, h1, ?_⟩
    obtain ⟨n, x⟩ := f
    cases x with
    | d x => exact Dq.mono hF _ _ h2
    | l xs =>
      obtain ⟨p, vs, rfl, h3, h4⟩ := h2
      refine ⟨p, vs, rfl, k p ?_ _ h3, h4.mono hF⟩
      refine List.mem_cons_of_mem _ (List.mem_cons_of_mem _ (List.mem_filterMap.mpr ⟨_, hf, ?_⟩))
      show (gs.lookup n).bind refOf = some p
      rw [h1]; rfl
/-- what the slot has is kept where its own parts, the script and what is frozen are -/
theorem SlotR.kept {s : Sl} {w : Option V} (h : SlotR K mg H0 F H s w) (hF : Same F F') (kf : ∀ x o u, H x = some (.frz o u) → H' x = some (.frz o u)) (kb : ∀ x o, H0 x = some o → H x = some o → H' x = some o) (k : ∀ x o, InFp H s w x → H x = some o → H' x = some o) (nf : ∀ x, InFp H s w x → F' x = none) : SlotR K mg H0 F' H' s w := by
  cases s with
  | emp => trivial
  | val d => obtain ⟨v, e, q⟩ := h; exact ⟨v, e, q.mono hF⟩
  | own xs =>
    obtain ⟨a, vs, rfl, h0, f0, hh, q⟩ := h
    exact ⟨a, vs, rfl, h0, nf a rfl, k a _ rfl hh, q.mono hF⟩
  | scr ns =>
    obtain ⟨a, e, q⟩ := h
    refine ⟨a, e, ?_⟩
    rcases q with ⟨o, q⟩ | q
    · exact .inl ⟨o, kf _ _ _ q⟩
    · exact .inr q
  | exc c => obtain ⟨a, e, q⟩ := h; exact ⟨a, e, hF _ _ q⟩
  | big b =>
    obtain ⟨a, rfl, q, nd, c⟩ := h
    have k' : ∀ x ∈ fpOf H a b, ∀ o, H x = some o → H' x = some o := fun x hx o => k x o hx
    obtain ⟨o, ho, _⟩ := (c a fpOf_self).2.2
    have e : fpOf H' a b = fpOf H a b := fpOf_congr ((k' a fpOf_self o ho).trans ho.symm)
    refine ⟨a, rfl, q.kept hF k', by rw [e]; exact nd, fun x hx => ?_⟩
    rw [e] at hx
    obtain ⟨c1, c2, o, c3, c4⟩ := c x hx
    exact ⟨c1, nf x hx, o, k' x hx o c3, c4⟩
  | slf b =>
    obtain ⟨a, rfl, es, q, nd, c⟩ := h
    have k' : ∀ x ∈ fpOf H a b, ∀ o, H x = some o → H' x = some o := fun x hx o => k x o hx
    obtain ⟨o, ho, _⟩ := (c a fpOf_self).2.2
    have e : fpOf H' a b = fpOf H a b := fpOf_congr ((k' a fpOf_self o ho).trans ho.symm)
    refine ⟨a, rfl, es, q.kept hF k', by rw [e]; exact nd, fun x hx => ?_⟩
    rw [e] at hx
    obtain ⟨c1, c2, o, c3, c4⟩ := c x hx
    exact ⟨c1, nf x hx, o, k' x hx o c3, c4⟩
  | bor b =>
    obtain ⟨a, rfl, q, c⟩ := h
    have k' : ∀ x ∈ fpOf H a b, ∀ o, H x = some o → H' x = some o := fun x hx o e => by
      obtain ⟨o', c1, c2⟩ := c x hx
      rw [e] at c1; cases c1
      exact kb x o c2 e
    obtain ⟨o, ho, _⟩ := c a fpOf_self
    have e : fpOf H' a b = fpOf H a b := fpOf_congr ((k' a fpOf_self o ho).trans ho.symm)
    refine ⟨a, rfl, q.kept hF k', fun x hx => ?_⟩
    rw [e] at hx
    obtain ⟨o, c1, c2⟩ := c x hx
    exact ⟨o, k' x hx o c1, c2⟩
theorem InFp.back {s : Sl} {w : Option V} {x : Addr} (h : SlotR K mg H0 F H s w) (k : ∀ x o, InFp H s w x → H x = some o → H' x = some o) (i : InFp H' s w x) : InFp H s w x := by
  cases s with
  | own xs =>
    obtain ⟨a, vs, rfl, _⟩ := h
    exact i
  | big b =>
    obtain ⟨a, rfl, q, nd, c⟩ := h
    obtain ⟨o, ho, _⟩ := (c a fpOf_self).2.2
    have e : fpOf H' a b = fpOf H a b := fpOf_congr ((k a o fpOf_self ho).trans ho.symm)
    show x ∈ fpOf H a b
    rw [← e]
    exact i
  | slf b =>
    obtain ⟨a, rfl, es, q, nd, c⟩ := h
    obtain ⟨o, ho, _⟩ := (c a fpOf_self).2.2
    have e : fpOf H' a b = fpOf H a b := fpOf_congr ((k a o fpOf_self ho).trans ho.symm)
    show x ∈ fpOf H a b
    rw [← e]
    exact i
  | bor _ => exact i.elim
  | emp => exact i.elim
  | val _ => exact i.elim
  | scr _ => exact i.elim
  | exc _ => exact i.elim
/-- a part: it stands, ahead of it nothing stood, it is not frozen -/
theorem SlotR.part {s : Sl} {w : Option V} {x : Addr} (h : SlotR K mg H0 F H s w) (i : InFp H s w x) : H0 x = none ∧ F x = none ∧ ∃ o, H x = some o ∧ ∀ ob u, o ≠ .frz ob u := by
  cases s with
  | own xs =>
    obtain ⟨a, vs, rfl, h0, f0, hh, q⟩ := h
    cases (show x = a from i)
    exact ⟨h0, f0, _, hh, fun _ _ z => by cases z⟩
  | big b =>
    obtain ⟨a, rfl, q, nd, c⟩ := h
    exact c x i
  | slf b =>
    obtain ⟨a, rfl, es, q, nd, c⟩ := h
    exact c x i
  | bor _ => exact i.elim
  | emp => exact i.elim
  | val _ => exact i.elim
  | scr _ => exact i.elim
  | exc _ => exact i.elim
def noOwn : Sl → Prop
  | .own _ => False
  | .big _ => False
  | .slf _ => False
  | _ => True
theorem noOwn.fp {s : Sl} {w : Option V} {x : Addr} (h : noOwn s) : ¬ InFp H s w x := by
  cases s with
  | own _ => exact h.elim
  | big _ => exact h.elim
  | slf _ => exact h.elim
  | bor _ => exact fun z => z
  | emp => exact fun z => z
  | val _ => exact fun z => z
  | scr _ => exact fun z => z
  | exc _ => exact fun z => z
/-- slot i: s of what stands there then; all else is kept -/
theorem Rl.put (r : Rl K mg H0 env σ F H) (i : Nat) {s : Sl} {w : Option V} (hF : Same F F') (fh : Same F' H')
    (k : ∀ x o, H x = some o → (∀ t u, env[i]? = some t → σ[i]? = some u → ¬ InFp H t u x) → H' x = some o)
    (nf : ∀ (j : Nat) t u x, j ≠ i → env[j]? = some t → σ[j]? = some u → InFp H t u x → F' x = none)
    (h : SlotR K mg H0 F' H' s w) (ap : ∀ (j : Nat) t u x, j ≠ i → env[j]? = some t → σ[j]? = some u → InFp H t u x → ¬ InFp H' s w x) : Rl K mg H0 (env.set i s) (σ.set i w) F' H' := by
  have kf : ∀ x o u, H x = some (.frz o u) → H' x = some (.frz o u) := fun x o u e => k x _ e fun t v h1 h2 z => by
    obtain ⟨_, _, ob, e', n⟩ := (r.sl i t v h1 h2).part z
    rw [e] at e'; cases e'
    exact n _ _ rfl
  have kb : ∀ x o, H0 x = some o → H x = some o → H' x = some o := fun x o e0 e => k x o e fun t v h1 h2 z => by
    have := ((r.sl i t v h1 h2).part z).1
    rw [e0] at this; cases this
  have ko : ∀ (j : Nat) t u, j ≠ i → env[j]? = some t → σ[j]? = some u → ∀ x o, InFp H t u x → H x = some o → H' x = some o := fun j t u hj h1 h2 x o z e => k x o e fun t' u' h3 h4 z' => r.ap i j t' t u' u x (Ne.symm hj) h3 h1 h4 h2 z' z
  refine ⟨fh, by rw [List.length_set, List.length_set, r.len], fun j t u h1 h2 => ?_, fun j l t t' u u' x hjl h1 h2 h3 h4 z => ?_⟩
  · by_cases hj : i = j
    · subst hj
      have hi : i < env.length := by have := (List.getElem?_eq_some_iff.mp h1).1; rwa [List.length_set] at this
      rw [List.getElem?_set_self hi] at h1
      rw [List.getElem?_set_self (by rw [← r.len]; exact hi)] at h2
      cases h1; cases h2; exact h
    · rw [List.getElem?_set_ne hj] at h1 h2
      exact (r.sl j t u h1 h2).kept hF kf kb (ko j t u (Ne.symm hj) h1 h2) fun x => nf j t u x (Ne.symm hj) h1 h2
  · by_cases hj : i = j
    · subst hj
      have hi : i < env.length := by have := (List.getElem?_eq_some_iff.mp h1).1; rwa [List.length_set] at this
      rw [List.getElem?_set_self hi] at h1
      rw [List.getElem?_set_self (by rw [← r.len]; exact hi)] at h3
      cases h1; cases h3
      rw [List.getElem?_set_ne hjl] at h2 h4
      exact fun z' => ap l t' u' x (Ne.symm hjl) h2 h4 ((InFp.back (r.sl l t' u' h2 h4) (ko l t' u' (Ne.symm hjl) h2 h4)) z') z
    · rw [List.getElem?_set_ne hj] at h1 h3
      have z2 := InFp.back (r.sl j t u h1 h3) (ko j t u (Ne.symm hj) h1 h3) z
      by_cases hl : i = l
      · subst hl
        have hi : i < env.length := by have := (List.getElem?_eq_some_iff.mp h2).1; rwa [List.length_set] at this
        rw [List.getElem?_set_self hi] at h2
        rw [List.getElem?_set_self (by rw [← r.len]; exact hi)] at h4
        cases h2; cases h4
        exact ap j t u x (Ne.symm hj) h1 h3 z2
      · rw [List.getElem?_set_ne hl] at h2 h4
        exact fun z' => r.ap j l t t' u u' x hjl h1 h2 h3 h4 z2 ((InFp.back (r.sl l t' u' h2 h4) (ko l t' u' (Ne.symm hl) h2 h4)) z')
/-- what is new is apart from all parts -/
theorem Rl.apart (r : Rl K mg H0 env σ F H) {j : Nat} {t : Sl} {u : Option V} {x : Addr} (h1 : env[j]? = some t) (h2 : σ[j]? = some u) (z : InFp H t u x) : H x ≠ none := fun e => by
  obtain ⟨_, _, ob, e', _⟩ := (r.sl j t u h1 h2).part z
  rw [e] at e'; cases e'
theorem Grow.none {x : Addr} {o : HO} (g : Grow F H F' H') (f : F x = none) (h : H x = some o) : F' x = none := by
  cases e' : F' x with
  | none => rfl
  | some o =>
    rcases g.nw x o e' with z | z
    · rw [f] at z; cases z
    · rw [h] at z; cases z
theorem SlotR.grow {s : Sl} {w : Option V} (h : SlotR K mg H0 F H s w) (g : Grow F H F' H') : SlotR K mg H0 F' H' s w :=
  h.kept g.f (fun x o u e => g.h x _ e) (fun x o _ e => g.h x o e) (fun x o _ e => g.h x o e) fun x z => by
    obtain ⟨_, f, o, e, _⟩ := h.part z
    exact g.none f e
theorem Rl.grow (r : Rl K mg H0 env σ F H) (g : Grow F H F' H') : Rl K mg H0 env σ F' H' :=
  ⟨g.fh, r.len, fun i s w h1 h2 => (r.sl i s w h1 h2).grow g, fun i j s t w u x hij h1 h2 h3 h4 z z' =>
    r.ap i j s t w u x hij h1 h2 h3 h4 (InFp.back (r.sl i s w h1 h3) (fun x o _ e => g.h x o e) z) (InFp.back (r.sl j t u h2 h4) (fun x o _ e => g.h x o e) z')⟩
theorem Rl.at_ (r : Rl K mg H0 env σ F H) {i : Nat} {s : Sl} (h : sget env i = s) (hs : s ≠ .emp) : ∃ w, env[i]? = some s ∧ σ[i]? = some w ∧ SlotR K mg H0 F H s w := by
  unfold sget at h
  rw [List.getD_eq_getElem?_getD] at h
  cases e : env[i]? with
  | none => rw [e] at h; exact absurd h.symm hs
  | some t =>
    rw [e] at h
    have h' : t = s := h
    subst h'
    have hi : i < σ.length := by rw [← r.len]; exact (List.getElem?_eq_some_iff.mp e).1
    exact ⟨σ[i], rfl, List.getElem?_eq_getElem hi, r.sl i t _ e (List.getElem?_eq_getElem hi)⟩
theorem Rl.val (r : Rl K mg H0 env σ F H) {i : Nat} {d : PyData} (h : sget env i = .val d) : ∃ v, σ[i]? = some (some v) ∧ Dq F v d := by
  obtain ⟨w, _, e, v, rfl, q⟩ := r.at_ h (by intro z; cases z)
  exact ⟨v, e, q⟩
theorem Rl.own (r : Rl K mg H0 env σ F H) {i : Nat} {xs : List PyData} (h : sget env i = .own xs) : ∃ a vs, σ[i]? = some (some (.ref a)) ∧ H0 a = none ∧ F a = none ∧ H a = some (.lst vs) ∧ DqA F vs xs := by
  obtain ⟨w, _, e, a, vs, rfl, q⟩ := r.at_ h (by intro z; cases z)
  exact ⟨a, vs, e, q⟩
theorem Rl.scr (r : Rl K mg H0 env σ F H) {i : Nat} {ns : List Int} (h : sget env i = .scr ns) : ∃ a, σ[i]? = some (some (.ref a)) ∧ ScrAt K H a (ns.map V.int) := by
  obtain ⟨w, _, e, a, rfl, q⟩ := r.at_ h (by intro z; cases z)
  exact ⟨a, e, q⟩
theorem Rl.exc (r : Rl K mg H0 env σ F H) {i : Nat} {c : Str} (h : sget env i = .exc c) : ∃ a, σ[i]? = some (some (.ref a)) ∧ F a = some (IsExc a (cav mg c)) := by
  obtain ⟨w, _, e, a, rfl, q⟩ := r.at_ h (by intro z; cases z)
  exact ⟨a, e, q⟩
theorem Rl.big (r : Rl K mg H0 env σ F H) {i : Nat} {b : Big} (h : sget env i = .big b) : ∃ a, σ[i]? = some (some (.ref a)) ∧ BigR mg F H a b ∧ (fpOf H a b).Nodup ∧ ∀ x ∈ fpOf H a b, H0 x = none ∧ F x = none ∧ ∃ o, H x = some o ∧ ∀ ob u, o ≠ .frz ob u := by
  obtain ⟨w, _, e, a, rfl, q⟩ := r.at_ h (by intro z; cases z)
  exact ⟨a, e, q⟩
theorem Rl.slf (r : Rl K mg H0 env σ F H) {i : Nat} {b : Big} (h : sget env i = .slf b) : σ[i]? = some (some (.ref H0.sa)) ∧ BigR mg F H H0.sa b ∧ (fpOf H H0.sa b).Nodup ∧ ∀ x ∈ fpOf H H0.sa b, H0 x = none ∧ F x = none ∧ ∃ o, H x = some o ∧ ∀ ob u, o ≠ .frz ob u := by
  obtain ⟨w, _, e, a, rfl, rfl, q⟩ := r.at_ h (by intro z; cases z)
  exact ⟨e, q⟩
/-- what is greater, however it is had: for reading -/
def anyB : Sl → Option Big
  | .big b => some b
  | .slf b => some b
  | .bor b => some b
  | _ => none
theorem Rl.anyB (r : Rl K mg H0 env σ F H) {i : Nat} {b : Big} (h : anyB (sget env i) = some b) : ∃ a, σ[i]? = some (some (.ref a)) ∧ BigR mg F H a b ∧ ∀ x ∈ fpOf H a b, ∃ o, H x = some o := by
  cases e : sget env i with
  | big b' =>
    rw [e] at h; cases h
    obtain ⟨a, h1, h2, _, h4⟩ := r.big e
    exact ⟨a, h1, h2, fun x hx => (h4 x hx).2.2.imp fun o z => z.1⟩
  | slf b' =>
    rw [e] at h; cases h
    obtain ⟨h1, h2, _, h4⟩ := r.slf e
    exact ⟨_, h1, h2, fun x hx => (h4 x hx).2.2.imp fun o z => z.1⟩
  | bor b' =>
    rw [e] at h; cases h
    obtain ⟨w, _, e, a, rfl, q, c⟩ := r.at_ e (by intro z; cases z)
    exact ⟨a, e, q, fun x hx => (c x hx).imp fun o z => z.1⟩
  | _ => rw [e] at h; cases h
/-- a slot set to something that is not its own -/
theorem Rl.set (r : Rl K mg H0 env σ F H) (i : Nat) {s : Sl} {w : Option V} (h : SlotR K mg H0 F H s w) (hs : noOwn s) : Rl K mg H0 (env.set i s) (σ.set i w) F H :=
  r.put i (Same.refl _) r.fh (fun x o e _ => e) (fun j t u x _ h1 h2 z => ((r.sl j t u h1 h2).part z).2.1) h fun j t u x _ _ _ _ => hs.fp
def wipeE (env : Ev) : List Nat → Ev
  | [] => env
  | v :: vs => (wipeE env vs).set v .emp
theorem Rl.wipe (r : Rl K mg H0 env σ F H) : ∀ vs : List Nat, Rl K mg H0 (wipeE env vs) (wipe σ vs) F H
  | [] => r
  | v :: vs => (Rl.wipe r vs).set v (s := .emp) trivial trivial
/-- a new list in a slot -/
theorem Rl.set_own (r : Rl K mg H0 env σ F H) (i : Nat) {p : Addr} {vs : List V} {xs : List PyData} (h0 : H0 p = none) (np : H p = none) (q : DqA F vs xs) :
    Rl K mg H0 (env.set i (.own xs)) (σ.set i (some (.ref p))) F (upd H p (.lst vs)) := by
  have hu : Same H (upd H p (.lst vs)) := same_upd (Same.refl H) np
  refine r.put i (Same.refl _) (r.fh.trans hu) (fun x o e _ => hu x o e) (fun j t u x _ h1 h2 z => ((r.sl j t u h1 h2).part z).2.1) ⟨p, vs, rfl, h0, r.fh.free np, upd_same, q⟩ fun j t u x _ h1 h2 z z' => ?_
  cases (show x = p from z')
  exact r.apart h1 h2 z np
/-- an own list changed in place -/
theorem Rl.upd_own (r : Rl K mg H0 env σ F H) {i : Nat} {p : Addr} {vs : List V} {xs ys : List PyData} (he : sget env i = .own ys) (hσ : σ[i]? = some (some (.ref p))) (q : DqA F vs xs) :
    Rl K mg H0 (env.set i (.own xs)) σ F (upd H p (.lst vs)) := by
  obtain ⟨w, e1, e2, a, us, e3, h0, fp, hp, _⟩ := r.at_ he (by intro z; cases z)
  rw [hσ] at e2
  have e4 := Option.some.inj e2
  rw [← e4] at e3
  have e5 : p = a := by
    have := Option.some.inj e3
    injection this
  subst e5
  have fh' : Same F (upd H p (.lst vs)) := fun b o e => by
    have nb : b ≠ p := fun z => by subst z; rw [fp] at e; cases e
    rw [upd_ne nb]; exact r.fh b o e
  have key := r.put i (s := .own xs) (w := some (.ref p)) (Same.refl _) fh' (fun x o e n => ?_) (fun j t u x _ h1 h2 z => ((r.sl j t u h1 h2).part z).2.1) ⟨p, vs, rfl, h0, fp, upd_same, q⟩ fun j t u x hj h1 h2 z z' => ?_
  · have e6 : σ.set i (some (.ref p)) = σ := by
      refine List.ext_getElem? fun j => ?_
      by_cases hj : i = j
      · subst hj
        rw [List.getElem?_set_self (List.getElem?_eq_some_iff.mp hσ).1, hσ]
      · rw [List.getElem?_set_ne hj]
    rw [e6] at key
    exact key
  · have nb : x ≠ p := fun z => n _ _ e1 hσ z
    rw [upd_ne nb]; exact e
  · exact r.ap i j _ t _ u x (Ne.symm hj) e1 h1 hσ h2 z' z
end
end L3

namespace L3
open PySem PySem.Spec PyProof.Rows L2

/-! ### values that may be an own list -/
def Bq (F H : Hp) (v : V) (d : PyData) : Prop := Dq F v d ∨ ∃ a vs ds, v = .ref a ∧ d = .list ds ∧ H a = some (.lst vs) ∧ DqA F vs ds
section
variable {K : PySem.W.Frag} {F H F' H' : Hp} {v : V}
theorem Bq.grow {d : PyData} (b : Bq F H v d) (g : Grow F H F' H') : Bq F' H' v d := by
  rcases b with b | ⟨a, vs, ds, e1, e2, e3, e4⟩
  · exact .inl (b.mono g.f)
  · exact .inr ⟨a, vs, ds, e1, e2, g.h _ _ e3, e4.mono g.f⟩
theorem Bq.non (b : Bq F H v .none) : v = .non := by
  rcases b with b | ⟨a, vs, ds, e1, e2, e3, e4⟩
  · cases b; rfl
  · cases e2
theorem Bq.bool {k : Bool} (b : Bq F H v (.bool k)) : v = .bl k := by
  rcases b with b | ⟨a, vs, ds, e1, e2, e3, e4⟩
  · cases b; rfl
  · cases e2
theorem Bq.int {i : Int} (b : Bq F H v (.int i)) : v = .int i := by
  rcases b with b | ⟨a, vs, ds, e1, e2, e3, e4⟩
  · cases b; rfl
  · cases e2
theorem Bq.str {x : Str} (b : Bq F H v (.str x)) : v = .str x := by
  rcases b with b | ⟨a, vs, ds, e1, e2, e3, e4⟩
  · cases b; rfl
  · cases e2
theorem Bq.list {ds : List PyData} (fh : Same F H) (b : Bq F H v (.list ds)) : ∃ a vs, v = .ref a ∧ H a = some (.lst vs) ∧ DqA F vs ds := by
  rcases b with b | ⟨a, vs, ds', e1, e2, e3, e4⟩
  · cases b with
    | lst h q => exact ⟨_, _, rfl, fh _ _ h, q⟩
  · cases e2; exact ⟨a, vs, e1, e3, e4⟩
theorem Bq.tup {ds : List PyData} (fh : Same F H) (b : Bq F H v (.tuple ds)) : ∃ a vs, v = .ref a ∧ F a = some (.tup vs) ∧ H a = some (.tup vs) ∧ DqA F vs ds := by
  rcases b with b | ⟨a, vs, ds', e1, e2, e3, e4⟩
  · cases b with
    | tup h q => exact ⟨_, _, rfl, h, fh _ _ h, q⟩
  · cases e2
theorem Bq.dict {kvs : List (PyData × PyData)} (b : Bq F H v (.dict kvs)) : False := by
  rcases b with b | ⟨a, vs, ds', e1, e2, e3, e4⟩
  · cases b
  · cases e2
theorem Bq.dp {d : PyData} (fh : Same F H) (b : Bq F H v d) : Dp K H v d := by
  rcases b with b | ⟨a, vs, ds', e1, e2, e3, e4⟩
  · exact b.dp fh
  · subst e1; subst e2; exact .lst (.inl (.inl e3)) (e4.dp fh)
end

/-! ### judgements -/
def tD (K : PySem.W.Frag) (mg : Str → Option Value) (W : WX) (f : Ev → R PyData) : TE := fun σ H Q => ∃ H0 F env, Rl K mg H0 env σ F H ∧
  Post (f env) (fun d => ∀ v F' H', Grow F H F' H' → Dq F' v d → Q v H') (fun c => ∀ F' H', Grow F H F' H' → W (cav mg c) none σ H')
def tBo (K : PySem.W.Frag) (mg : Str → Option Value) (W : WX) (f : Ev → R PyData) : TE := fun σ H Q => ∃ H0 F env, Rl K mg H0 env σ F H ∧
  Post (f env) (fun d => ∀ v F' H', Grow F H F' H' → Bq F' H' v d → Q v H') (fun c => ∀ F' H', Grow F H F' H' → W (cav mg c) none σ H')
def tDT (K : PySem.W.Frag) (mg : Str → Option Value) (W : WX) (f : Ev → R Bool) : TT := fun σ H Q => ∃ H0 F env, Rl K mg H0 env σ F H ∧
  Post (f env) (fun b => ∀ F' H', Grow F H F' H' → Q b H') (fun c => ∀ F' H', Grow F H F' H' → W (cav mg c) none σ H')
/-- arguments: data, or the script -/
def SlA (K : PySem.W.Frag) (mg : Mg) (F H : Hp) : List V → List Sl → Prop
  | [], [] => True
  | v :: vs, s :: ss => SlotR K mg ⟨H, 0⟩ F H s (some v) ∧ noOwn s ∧ SlA K mg F H vs ss
  | _, _ => False
theorem SlotR.arg {K : PySem.W.Frag} {mg : Mg} {G : G0} {F H F' H' : Hp} {s : Sl} {w : Option V} (h : SlotR K mg G F H s w) (n : noOwn s) (g : Grow F H F' H') : SlotR K mg ⟨H', 0⟩ F' H' s w := by
  have h := h.grow g
  cases s with
  | own _ => exact n.elim
  | big _ => exact n.elim
  | slf _ => exact n.elim
  | emp => trivial
  | val _ => exact h
  | scr _ => exact h
  | exc _ => exact h
  | bor b =>
    obtain ⟨a, e, q, c⟩ := h
    exact ⟨a, e, q, fun x hx => (c x hx).imp fun o z => ⟨z.1, z.1⟩⟩
theorem SlA.grow {K : PySem.W.Frag} {mg : Mg} {F H F' H' : Hp} (g : Grow F H F' H') : ∀ {vs : List V} {ss : List Sl}, SlA K mg F H vs ss → SlA K mg F' H' vs ss
  | [], [], _ => trivial
  | v :: vs, s :: ss, ⟨h1, h2, h3⟩ => ⟨h1.arg h2 g, h2, SlA.grow g h3⟩
  | [], _ :: _, h => h
  | _ :: _, [], h => h
def tDA (K : PySem.W.Frag) (mg : Str → Option Value) (W : WX) (f : Ev → R (List Sl)) : TA := fun σ H Q => ∃ H0 F env, Rl K mg H0 env σ F H ∧
  Post (f env) (fun ss => ∀ vs F' H', Grow F H F' H' → SlA K mg F' H' vs ss → Q vs H') (fun c => ∀ F' H', Grow F H F' H' → W (cav mg c) none σ H')
def DE (X : Cx) (W : WX) (e : Expr) (f : Ev → R PyData) : Prop := PE X e (tD X.K X.mg W f)
def DB (X : Cx) (W : WX) (e : Expr) (f : Ev → R PyData) : Prop := PE X e (tBo X.K X.mg W f)
def DT (X : Cx) (W : WX) (e : Expr) (f : Ev → R Bool) : Prop := PT X e (tDT X.K X.mg W f)
def DW (X : Cx) (W : WX) (e : Expr) (f : Ev → R Bool) : Prop := PW X e (tDT X.K X.mg W f)
def DA (X : Cx) (W : WX) (es : List Expr) (f : Ev → R (List Sl)) : Prop := PA X es (tDA X.K X.mg W f)
theorem pre_E {X : Cx} {e : Expr} {t t' : TE} (h : PE X e t) (k : ∀ σ H Q, t' σ H Q → t σ H Q) : PE X e t' := ⟨fun pins s σ H Q I q => h.run pins s σ H Q I (k σ H Q q)⟩
theorem pre_T {X : Cx} {e : Expr} {t t' : TT} (h : PT X e t) (k : ∀ σ H Q, t' σ H Q → t σ H Q) : PT X e t' := ⟨fun pins s σ H Q I q => h.run pins s σ H Q I (k σ H Q q)⟩
theorem pre_W {X : Cx} {e : Expr} {t t' : TT} (h : PW X e t) (k : ∀ σ H Q, t' σ H Q → t σ H Q) : PW X e t' := ⟨fun w pins s σ H Q I q => h.run w pins s σ H Q I (k σ H Q q)⟩
theorem pre_A {X : Cx} {e : List Expr} {t t' : TA} (h : PA X e t) (k : ∀ σ H Q, t' σ H Q → t σ H Q) : PA X e t' := ⟨fun p pins s σ H Q I q => h.run p pins s σ H Q I (k σ H Q q)⟩
section
variable {X : Cx} {W : WX} {a b c : Expr} {f g h : Ev → R PyData} {pos : Pos}
theorem DE.db (h : DE X W a f) : DB X W a f := pre_E h fun σ H Q ⟨H0, F, env, r, p⟩ => ⟨H0, F, env, r, p.mono (fun d k v F' H' g q => k v F' H' g (.inl q)) fun _ k => k⟩

/-! ### names, constants -/
def dVar (i : Nat) : Ev → R PyData := fun env => match sget env i with
  | .val d => .ok d
  | _ => .bad
theorem de_var (i : Nat) {x : Str} (hN : X.N[i]? = some x := by rfl) (hv : Vis X.env.scope x := by first | exact Or.inl rfl | exact Or.inr (Or.inl rfl) | exact Or.inr (Or.inr rfl)) (hd : (x == ("__debug__" : Str)) = false := by decide)
    (hcd : (x == ("__classdict__" : Str)) = false := by decide) : DE X W (.Name x pos) (dVar i) := pre_E (pe_var hN hv hd hcd) fun σ H Q ⟨H0, F, env, r, p⟩ => by
  unfold dVar at p
  cases e : sget env i with
  | val d =>
    rw [e] at p
    obtain ⟨v, h1, h2⟩ := r.val e
    exact ⟨v, h1, p v F H (.refl r.fh) h2⟩
  | emp => rw [e] at p; exact p.elim
  | own _ => rw [e] at p; exact p.elim
  | scr _ => rw [e] at p; exact p.elim
  | exc _ => rw [e] at p; exact p.elim
  | big _ => rw [e] at p; exact p.elim
  | slf _ => rw [e] at p; exact p.elim
  | bor _ => rw [e] at p; exact p.elim
def dOwn (i : Nat) : Ev → R PyData := fun env => match sget env i with
  | .val d => .ok d
  | .own xs => .ok (.list xs)
  | _ => .bad
theorem db_own (i : Nat) {x : Str} (hN : X.N[i]? = some x := by rfl) (hv : Vis X.env.scope x := by first | exact Or.inl rfl | exact Or.inr (Or.inl rfl) | exact Or.inr (Or.inr rfl)) (hd : (x == ("__debug__" : Str)) = false := by decide)
    (hcd : (x == ("__classdict__" : Str)) = false := by decide) : DB X W (.Name x pos) (dOwn i) := pre_E (pe_var hN hv hd hcd) fun σ H Q ⟨H0, F, env, r, p⟩ => by
  unfold dOwn at p
  cases e : sget env i with
  | val d =>
    rw [e] at p
    obtain ⟨v, h1, h2⟩ := r.val e
    exact ⟨v, h1, p v F H (.refl r.fh) (.inl h2)⟩
  | own xs =>
    rw [e] at p
    obtain ⟨q, vs, h1, h2, h3, h4, h5⟩ := r.own e
    exact ⟨_, h1, p _ F H (.refl r.fh) (.inr ⟨q, vs, xs, rfl, rfl, h4, h5⟩)⟩
  | emp => rw [e] at p; exact p.elim
  | scr _ => rw [e] at p; exact p.elim
  | exc _ => rw [e] at p; exact p.elim
  | big _ => rw [e] at p; exact p.elim
  | slf _ => rw [e] at p; exact p.elim
  | bor _ => rw [e] at p; exact p.elim
def dC (d : PyData) : Ev → R PyData := fun _ => .ok d
theorem de_int {i j} : DE X W (.Constant (.int i) j pos) (dC (.int i)) := pre_E pe_int fun σ H Q ⟨H0, F, env, r, p⟩ => p _ F H (.refl r.fh) (.int i)
theorem de_bl {i j} : DE X W (.Constant (.bool i) j pos) (dC (.bool i)) := pre_E pe_bl fun σ H Q ⟨H0, F, env, r, p⟩ => p _ F H (.refl r.fh) (.bl i)
theorem de_str {i j} : DE X W (.Constant (.str i) j pos) (dC (.str i)) := pre_E pe_str fun σ H Q ⟨H0, F, env, r, p⟩ => p _ F H (.refl r.fh) (.str i)
theorem de_non {j} : DE X W (.Constant .none j pos) (dC .none) := pre_E pe_non fun σ H Q ⟨H0, F, env, r, p⟩ => p _ F H (.refl r.fh) .non

/-! ### operators -/
def OpD (r : R2) (g : PyData → PyData → R PyData) : Prop := ∀ (F H : Hp) (x y : V) (d e : PyData) (Q : VK) (E : Str → Prop), Same F H → Bq F H x d → Bq F H y e →
  Post (g d e) (fun z => ∀ v F' H', Grow F H F' H' → Dq F' v z → Q v H') E → r x y H Q
def d2 (g : PyData → PyData → R PyData) (f1 f2 : Ev → R PyData) : Ev → R PyData := fun env => (f1 env).bind fun x => (f2 env).bind fun y => g x y
theorem d2_run {r : R2} {gg : PyData → PyData → R PyData} (hg : OpD r gg) {σ : L2.St} {H : Hp} {Q : VK} (p : tD X.K X.mg W (d2 gg f g) σ H Q) : tOp r (tBo X.K X.mg W f) (tBo X.K X.mg W g) σ H Q := by
  obtain ⟨H0, F, env, rl, p⟩ := p
  refine ⟨H0, F, env, rl, (Post.bind p).mono (fun d p1 v F1 H1 g1 b1 => ?_) fun c p1 => p1⟩
  refine ⟨H0, F1, env, rl.grow g1, (Post.bind p1).mono (fun d2 p2 v2 F2 H2 g2 b2 => ?_) fun c p2 F' H' g' => p2 F' H' (g1.trans g')⟩
  exact hg F2 H2 v v2 d d2 Q _ g2.fh (b1.grow g2) b2 (p2.mono (fun z k v F' H' g' q => k v F' H' ((g1.trans g2).trans g') q) fun _ k => k)
theorem de_op {op : Operator} {r : R2} {gg : PyData → PyData → R PyData} (ho : OpR X (binaryOp op) r) (hg : OpD r gg) (ha : DB X W a f) (hb : DB X W b g) : DE X W (.BinOp a op b pos) (d2 gg f g) :=
  pre_E (pe_op ho ha hb) fun σ H Q p => d2_run hg p
theorem de_cmp {op : CmpOp} {r : R2} {gg : PyData → PyData → R PyData} (ho : OpR X (compareOp op) r) (hg : OpD r gg) (ha : DB X W a f) (hb : DB X W b g) (hm : behindInMarks op b = false := by rfl) : DE X W (.Compare a [op] [b] pos) (d2 gg f g) :=
  pre_E (pe_cmpR ho ha hb hm) fun σ H Q p => d2_run hg p
def asBool : PyData → R Bool
  | .bool b => .ok b
  | _ => .bad
def dTest (f : Ev → R PyData) : Ev → R Bool := fun env => (f env).bind asBool
theorem tTest_run {t : TE} {σ : L2.St} {H : Hp} {Q : Bool → Hp → Prop} (ht : ∀ Q, tD X.K X.mg W f σ H Q → t σ H Q) (p : tDT X.K X.mg W (dTest f) σ H Q) : tTest t σ H Q := by
  refine ht _ ?_
  obtain ⟨H0, F, env, rl, p⟩ := p
  refine ⟨H0, F, env, rl, (Post.bind p).mono (fun d k v F' H' g q => ?_) fun _ k => k⟩
  cases d <;> first | exact k.elim | skip
  cases q
  exact ⟨_, rfl, k F' H' g⟩
theorem dt_cmp {op : CmpOp} {r : R2} {gg : PyData → PyData → R PyData} (ho : OpR X (compareOp op) r) (hg : OpD r gg) (ha : DB X W a f) (hb : DB X W b g) (hm : behindInMarks op b = false := by rfl) : DT X W (.Compare a [op] [b] pos) (dTest (d2 gg f g)) :=
  pre_T (pt_cmpR ho ha hb hm) fun σ H Q p => tTest_run (fun Q p => d2_run hg p) p
def dChain (g1 g2 : PyData → PyData → R PyData) (f1 f2 f3 : Ev → R PyData) : Ev → R PyData := fun env => (f1 env).bind fun x => (f2 env).bind fun y => (g1 x y).bind fun z => (asBool z).bind fun k =>
  if k = true then (f3 env).bind fun w => g2 y w else .ok (.bool false)
theorem dChain_run {r r' : R2} {gg gg' : PyData → PyData → R PyData} (hg : OpD r gg) (hg' : OpD r' gg') {σ : L2.St} {H : Hp} {Q : VK} (p : tD X.K X.mg W (dChain gg gg' f g h) σ H Q) :
    tChain r r' (tBo X.K X.mg W f) (tBo X.K X.mg W g) (tBo X.K X.mg W h) σ H Q := by
  obtain ⟨H0, F, env, rl, p⟩ := p
  refine ⟨H0, F, env, rl, (Post.bind p).mono (fun d p1 v F1 H1 g1 b1 => ?_) fun c p1 => p1⟩
  refine ⟨H0, F1, env, rl.grow g1, (Post.bind p1).mono (fun d2 p2 v2 F2 H2 g2 b2 => ?_) fun c p2 F' H' g' => p2 F' H' (g1.trans g')⟩
  have g12 := g1.trans g2
  refine hg F2 H2 v v2 d d2 _ _ g2.fh (b1.grow g2) b2 ((Post.bind p2).mono (fun z p3 v3 F3 H3 g3 b3 => ?_) fun _ k => k)
  cases z <;> first | exact p3.elim | skip
  rename_i k
  cases b3
  refine ⟨k, rfl, ?_⟩
  cases k with
  | false => exact p3 _ F3 H3 (g12.trans g3) (.bl false)
  | true =>
    refine iteT ⟨H0, F3, env, (rl.grow g12).grow g3, (Post.bind (show Post ((h env).bind fun w => gg' d2 w) _ _ from p3)).mono (fun d4 p4 v4 F4 H4 g4 b4 => ?_) fun c p4 F' H' g' => p4 F' H' ((g12.trans g3).trans g')⟩
    exact hg' F4 H4 v2 v4 d2 d4 _ _ g4.fh ((b2.grow g3).grow g4) b4 (p4.mono (fun z k v F' H' g' q => k v F' H' (((g12.trans g3).trans g4).trans g') q) fun _ k => k)
theorem de_chain {op op' : CmpOp} {r r' : R2} {gg gg' : PyData → PyData → R PyData} (ho : OpR X (compareOp op) r) (hg : OpD r gg) (ho' : OpR X (compareOp op') r') (hg' : OpD r' gg') (ha : DB X W a f) (hb : DB X W b g) (hc : DB X W c h)
    (hm : lastMarks [op, op'] [b, c] = false := by with_unfolding_all rfl) : DE X W (.Compare a [op, op'] [b, c] pos) (dChain gg gg' f g h) := pre_E (pe_chain ho ho' ha hb hc hm) fun σ H Q p => dChain_run hg hg' p
theorem dt_chain {op op' : CmpOp} {r r' : R2} {gg gg' : PyData → PyData → R PyData} (ho : OpR X (compareOp op) r) (hg : OpD r gg) (ho' : OpR X (compareOp op') r') (hg' : OpD r' gg') (ha : DB X W a f) (hb : DB X W b g) (hc : DB X W c h)
    (hm : lastMarks [op, op'] [b, c] = false := by with_unfolding_all rfl) : DT X W (.Compare a [op, op'] [b, c] pos) (dTest (dChain gg gg' f g h)) := pre_T (pt_chain ho ho' ha hb hc hm) fun σ H Q p => tTest_run (fun Q p => dChain_run hg hg' p) p

/-! ### unary, truth, and, or, not, if -/
def negD : PyData → R PyData
  | .int i => .ok (.int (-i))
  | _ => .bad
def d1 (g : PyData → R PyData) (f : Ev → R PyData) : Ev → R PyData := fun env => (f env).bind g
theorem de_neg (ha : DB X W a f) : DE X W (.UnaryOp .USub a pos) (d1 negD f) := pre_E (pe_un un_neg ha) fun σ H Q ⟨H0, F, env, rl, p⟩ => by
  refine ⟨H0, F, env, rl, (Post.bind p).mono (fun d p1 v F1 H1 g1 b1 => ?_) fun c p1 => p1⟩
  cases d <;> first | exact p1.elim | skip
  rename_i i
  have := b1.int; subst this
  exact ⟨i, rfl, p1 _ F1 H1 g1 (.int _)⟩
def BIG : Nat := 1000000
theorem big_le {n : Nat} (h : n ≤ BIG) : n ≤ sizeLine := Nat.le_trans h (by rw [sizeLine_eq]; decide)
theorem big_lt {n : Nat} (h : n ≤ BIG) : n < sizeLine := Nat.lt_of_le_of_lt h (by rw [sizeLine_eq]; decide)
def truthD : PyData → R Bool
  | .none => .ok false
  | .bool b => .ok b
  | .int i => .ok (i != 0)
  | .str x => if x.length ≤ BIG then .ok ((x.length : Int) != 0) else .bad
  | .list xs => .ok (!xs.isEmpty)
  | .tuple xs => .ok (!xs.isEmpty)
  | .dict _ => .bad
def dTr (f : Ev → R PyData) : Ev → R Bool := fun env => (f env).bind truthD
theorem emp_eq {F : Hp} {vs : List V} {ds : List PyData} (q : DqA F vs ds) : vs.isEmpty = ds.isEmpty := by cases q <;> rfl
theorem dt_tr (ha : DB X W a f) (he : ∀ whole, isTrue a X.env whole = (do let v ← whole; standAt a.pos; holding [v] (truthy v)) := by intro _; rfl) : DT X W a (dTr f) := pre_T (pt_truth ha he) fun σ H Q ⟨H0, F, env, rl, p⟩ => by
  refine ⟨H0, F, env, rl, (Post.bind p).mono (fun d p1 v F1 H1 g1 b1 => ?_) fun c p1 => p1⟩
  cases d with
  | none => have := b1.non; subst this; exact ⟨false, rfl, p1 F1 H1 g1⟩
  | bool b => have := b1.bool; subst this; exact ⟨b, rfl, p1 F1 H1 g1⟩
  | int i => have := b1.int; subst this; exact ⟨i != 0, rfl, p1 F1 H1 g1⟩
  | str x =>
    have := b1.str; subst this
    have p2 : Post (if x.length ≤ BIG then R.ok ((x.length : Int) != 0) else .bad) _ _ := p1
    split at p2
    · rename_i hx; exact ⟨_, ⟨big_le hx, rfl⟩, p2 F1 H1 g1⟩
    · exact p2.elim
  | list xs =>
    obtain ⟨l, vs, rfl, h1, h2⟩ := b1.list g1.fh
    exact ⟨_, .inl ⟨vs, .inl (.inl h1), rfl⟩, by rw [emp_eq h2]; exact p1 F1 H1 g1⟩
  | tuple xs =>
    obtain ⟨l, vs, rfl, h0, h1, h2⟩ := b1.tup g1.fh
    exact ⟨_, .inr (.inl ⟨vs, .inl (.inl h1), rfl⟩), by rw [emp_eq h2]; exact p1 F1 H1 g1⟩
  | dict _ => exact p1.elim
theorem dt_notTr (ha : DT X W a F1) : DT X W (.UnaryOp .Not a pos) (fun env => (F1 env).bind fun b => .ok (!b)) := pre_T (pt_not ha) fun σ H Q ⟨H0, F, env, rl, p⟩ =>
  ⟨H0, F, env, rl, (Post.bind p).mono (fun d p1 F1 H1 g1 => p1 F1 H1 g1) fun c p1 => p1⟩
def dNot (f : Ev → R Bool) : Ev → R Bool := fun env => (f env).bind fun b => .ok (!b)
def dAnd (f g : Ev → R Bool) : Ev → R Bool := fun env => (f env).bind fun b => if b = true then g env else .ok false
def dOr (f g : Ev → R Bool) : Ev → R Bool := fun env => (f env).bind fun b => if b = true then .ok true else g env
variable {t u : Ev → R Bool} {rest : List Expr}
theorem dt_not (ha : DT X W a t) : DT X W (.UnaryOp .Not a pos) (dNot t) := dt_notTr ha
theorem DW.dt (h : DW X W a t) : DT X W a t := PW.pt h
theorem dw_and1 (ha : DT X W a t) : DW X W (.BoolOp .And [a] pos) t := pw_and1 ha
theorem dw_or1 (ha : DT X W a t) : DW X W (.BoolOp .Or [a] pos) t := pw_or1 ha
theorem dw_and (ha : DT X W a t) (hb : DW X W (.BoolOp .And (b :: rest) pos) u) : DW X W (.BoolOp .And (a :: b :: rest) pos) (dAnd t u) := pre_W (pw_and ha hb) fun σ H Q ⟨H0, F, env, rl, p⟩ => by
  refine ⟨H0, F, env, rl, (Post.bind p).mono (fun k p1 F1 H1 g1 => ?_) fun c p1 => p1⟩
  cases k with
  | true => exact iteT ⟨H0, F1, env, rl.grow g1, Post.mono (show Post (u env) _ _ from p1) (fun d k F' H' g' => k F' H' (g1.trans g')) fun c k F' H' g' => k F' H' (g1.trans g')⟩
  | false => exact iteF (p1 F1 H1 g1)
theorem dw_or (ha : DT X W a t) (hb : DW X W (.BoolOp .Or (b :: rest) pos) u) : DW X W (.BoolOp .Or (a :: b :: rest) pos) (dOr t u) := pre_W (pw_or ha hb) fun σ H Q ⟨H0, F, env, rl, p⟩ => by
  refine ⟨H0, F, env, rl, (Post.bind p).mono (fun k p1 F1 H1 g1 => ?_) fun c p1 => p1⟩
  cases k with
  | false => exact iteF ⟨H0, F1, env, rl.grow g1, Post.mono (show Post (u env) _ _ from p1) (fun d k F' H' g' => k F' H' (g1.trans g')) fun c k F' H' g' => k F' H' (g1.trans g')⟩
  | true => exact iteT (p1 F1 H1 g1)
/-- as values: all but the last bools -/
def dAndV (f g : Ev → R PyData) : Ev → R PyData := fun env => (f env).bind fun x => (asBool x).bind fun k => if k = true then g env else .ok (.bool false)
def dOrV (f g : Ev → R PyData) : Ev → R PyData := fun env => (f env).bind fun x => (asBool x).bind fun k => if k = true then .ok (.bool true) else g env
def dNotV (f : Ev → R PyData) : Ev → R PyData := fun env => (f env).bind fun x => (asBool x).bind fun k => .ok (.bool (!k))
theorem de_one {op} (ha : DE X W a f) : DE X W (.BoolOp op [a] pos) f := pe_one ha
theorem de_and (ha : DE X W a f) (hb : DE X W (.BoolOp .And (b :: rest) pos) g) : DE X W (.BoolOp .And (a :: b :: rest) pos) (dAndV f g) := pre_E (pe_and ha hb) fun σ H Q ⟨H0, F, env, rl, p⟩ => by
  refine ⟨H0, F, env, rl, (Post.bind p).mono (fun d p1 v F1 H1 g1 q => ?_) fun c p1 => p1⟩
  cases d <;> first | exact p1.elim | skip
  rename_i k
  cases q
  refine ⟨k, rfl, ?_⟩
  cases k with
  | true => exact iteT ⟨H0, F1, env, rl.grow g1, Post.mono (show Post (g env) _ _ from p1) (fun d k v F' H' g' => k v F' H' (g1.trans g')) fun c k F' H' g' => k F' H' (g1.trans g')⟩
  | false => exact iteF (p1 _ F1 H1 g1 (.bl false))
theorem de_or (ha : DE X W a f) (hb : DE X W (.BoolOp .Or (b :: rest) pos) g) : DE X W (.BoolOp .Or (a :: b :: rest) pos) (dOrV f g) := pre_E (pe_or ha hb) fun σ H Q ⟨H0, F, env, rl, p⟩ => by
  refine ⟨H0, F, env, rl, (Post.bind p).mono (fun d p1 v F1 H1 g1 q => ?_) fun c p1 => p1⟩
  cases d <;> first | exact p1.elim | skip
  rename_i k
  cases q
  refine ⟨k, rfl, ?_⟩
  cases k with
  | false => exact iteF ⟨H0, F1, env, rl.grow g1, Post.mono (show Post (g env) _ _ from p1) (fun d k v F' H' g' => k v F' H' (g1.trans g')) fun c k F' H' g' => k F' H' (g1.trans g')⟩
  | true => exact iteT (p1 _ F1 H1 g1 (.bl true))
theorem de_not (ha : DE X W a f) : DE X W (.UnaryOp .Not a pos) (dNotV f) := pre_E (pe_not ha) fun σ H Q ⟨H0, F, env, rl, p⟩ => by
  refine ⟨H0, F, env, rl, (Post.bind p).mono (fun d p1 v F1 H1 g1 q => ?_) fun c p1 => p1⟩
  cases d <;> first | exact p1.elim | skip
  rename_i k
  cases q
  exact ⟨k, rfl, p1 _ F1 H1 g1 (.bl _)⟩
def dIf (t : Ev → R Bool) (f g : Ev → R PyData) : Ev → R PyData := fun env => (t env).bind fun b => if b = true then f env else g env
theorem de_if (hc : DT X W c t) (ha : DE X W a f) (hb : DE X W b g) : DE X W (.IfExp c a b pos) (dIf t f g) := pre_E (pe_ifExp hc ha hb) fun σ H Q ⟨H0, F, env, rl, p⟩ => by
  refine ⟨H0, F, env, rl, (Post.bind p).mono (fun k p1 F1 H1 g1 => ?_) fun c p1 => p1⟩
  cases k with
  | true => exact iteT ⟨H0, F1, env, rl.grow g1, Post.mono (show Post (f env) _ _ from p1) (fun d k v F' H' g' => k v F' H' (g1.trans g')) fun c k F' H' g' => k F' H' (g1.trans g')⟩
  | false => exact iteF ⟨H0, F1, env, rl.grow g1, Post.mono (show Post (g env) _ _ from p1) (fun d k v F' H' g' => k v F' H' (g1.trans g')) fun c k F' H' g' => k F' H' (g1.trans g')⟩
end
end L3

namespace L3
open PySem PySem.Spec PyProof.Rows L2

/-! ### shape -/
def shp : Nat → PyData → Bool
  | _, .none => true
  | _, .bool _ => true
  | _, .int _ => true
  | _, .str x => PyData.strOk x
  | k + 1, .list xs => xs.all (shp k)
  | k + 1, .tuple xs => xs.all (shp k)
  | _, _ => false
theorem shpAll_ok {k : Nat} (ih : ∀ d, shp k d = true → d.canLay0 = true ∧ d.depth ≤ k) : ∀ xs : List PyData, xs.all (shp k) = true → PyData.canLayAll0 xs = true ∧ PyData.depthAll xs ≤ k
  | [], _ => ⟨by simp only [PyData.canLayAll0], by simp only [PyData.depthAll]; exact Nat.zero_le _⟩
  | x :: xs, h => by
    have h' : shp k x = true ∧ xs.all (shp k) = true := by simpa using h
    obtain ⟨a1, a2⟩ := ih x h'.1
    obtain ⟨b1, b2⟩ := shpAll_ok ih xs h'.2
    refine ⟨by simp only [PyData.canLayAll0, a1, b1, Bool.and_self], ?_⟩
    simp only [PyData.depthAll]
    exact Nat.max_le.mpr ⟨a2, b2⟩
theorem shp_ok : ∀ (k : Nat) (d : PyData), shp k d = true → d.canLay0 = true ∧ d.depth ≤ k := by
  intro k
  induction k with
  | zero =>
    intro d h
    cases d with
    | none => exact ⟨by simp only [PyData.canLay0], by simp only [PyData.depth]; exact Nat.zero_le _⟩
    | bool _ => exact ⟨by simp only [PyData.canLay0], by simp only [PyData.depth]; exact Nat.zero_le _⟩
    | int _ => exact ⟨by simp only [PyData.canLay0], by simp only [PyData.depth]; exact Nat.zero_le _⟩
    | str x => exact ⟨by simp only [PyData.canLay0]; exact h, by simp only [PyData.depth]; exact Nat.zero_le _⟩
    | list _ => simp [shp] at h
    | tuple _ => simp [shp] at h
    | dict _ => simp [shp] at h
  | succ k ih =>
    intro d h
    cases d with
    | none => exact ⟨by simp only [PyData.canLay0], by simp only [PyData.depth]; exact Nat.zero_le _⟩
    | bool _ => exact ⟨by simp only [PyData.canLay0], by simp only [PyData.depth]; exact Nat.zero_le _⟩
    | int _ => exact ⟨by simp only [PyData.canLay0], by simp only [PyData.depth]; exact Nat.zero_le _⟩
    | str x => exact ⟨by simp only [PyData.canLay0]; exact h, by simp only [PyData.depth]; exact Nat.zero_le _⟩
    | list xs =>
      obtain ⟨a, b⟩ := shpAll_ok ih xs h
      exact ⟨by simp only [PyData.canLay0]; exact a, by simp only [PyData.depth]; exact Nat.succ_le_succ b⟩
    | tuple xs =>
      obtain ⟨a, b⟩ := shpAll_ok ih xs h
      exact ⟨by simp only [PyData.canLay0]; exact a, by simp only [PyData.depth]; exact Nat.succ_le_succ b⟩
    | dict _ => simp [shp] at h
theorem shp_shaped {d : PyData} (h : shp 60 d = true) : SeqAt.shaped d = true := by
  obtain ⟨a, b⟩ := shp_ok 60 d h
  unfold SeqAt.shaped
  rw [a, decide_eq_true (show d.depth ≤ 64 by omega)]
  rfl

/-! ### operators on data -/
section
variable {X : Cx} {W : WX} {a b c : Expr} {f g h : Ev → R PyData} {pos : Pos}
def addD : PyData → PyData → R PyData
  | .int i, .int j => .ok (.int (i + j))
  | .str x, .str y => if x.length + y.length ≤ BIG then .ok (.str (x ++ y)) else .bad
  | .tuple xs, .tuple ys => if xs.length + ys.length ≤ BIG then .ok (.tuple (xs ++ ys)) else .bad
  | .list xs, .list ys => if xs.length + ys.length ≤ BIG then .ok (.list (xs ++ ys)) else .bad
  | _, _ => .bad
def rAddA (K : PySem.W.Frag) : R2 := fun x y H Q => (rI0 fun i j => .int (i + j)) x y H Q ∨ (∃ i j, x = .str i ∧ y = .str j ∧ i.length + j.length ≤ sizeLine ∧ Q (.str (i ++ j)) H) ∨ rCatA K x y H Q ∨ rCat x y H Q
theorem op_addA : OpR X (binaryOp .Add) (rAddA X.K) := op_add.or (op_add_str.or (op_catA.or op_cat))
theorem nil_iff {F : Hp} {vs : List V} {ds : List PyData} (q : DqA F vs ds) : vs = [] ↔ ds = [] := by cases q <;> simp
theorem opd_add (K : PySem.W.Frag) : OpD (rAddA K) addD := by
  intro F H x y d e Q E fh bx bY p
  unfold addD at p
  split at p
  · have := bx.int; subst this; have := bY.int; subst this
    exact .inl ⟨_, _, rfl, rfl, p _ F H (.refl fh) (.int _)⟩
  · have := bx.str; subst this; have := bY.str; subst this
    split at p
    · rename_i hh
      exact .inr (.inl ⟨_, _, rfl, rfl, big_le hh, p _ F H (.refl fh) (.str _)⟩)
    · exact p.elim
  · split at p
    · rename_i xs ys hh
      obtain ⟨ax, vx, rfl, fx, hx, qx⟩ := bx.tup fh
      obtain ⟨ay, vy, rfl, fy, hy, qy⟩ := bY.tup fh
      refine .inr (.inr (.inl ⟨ax, ay, vx, vy, rfl, rfl, .inl (.inl hx), .inl (.inl hy), by rw [qx.length, qy.length]; exact big_le hh, fun e => ?_, fun _ e => ?_, fun _ _ q nq => ?_⟩))
      · have e' := (nil_iff qx).mp e; subst e'
        exact p _ F H (.refl fh) (.tup fy qy)
      · have e' := (nil_iff qy).mp e; subst e'
        rw [List.append_nil] at p
        exact p _ F H (.refl fh) (.tup fx qx)
      · have g := Grow.new (o := .tup (vx ++ vy)) fh nq
        exact p _ _ _ g (.tup upd_same ((qx.append qy).mono g.f))
    · exact p.elim
  · split at p
    · rename_i xs ys hh
      obtain ⟨ax, vx, rfl, hx, qx⟩ := bx.list fh
      obtain ⟨ay, vy, rfl, hy, qy⟩ := bY.list fh
      refine .inr (.inr (.inr ⟨ax, ay, vx, vy, rfl, rfl, hx, hy, by rw [qx.length, qy.length]; exact big_le hh, fun q nq => ?_⟩))
      have g := Grow.new (o := .lst (vx ++ vy)) fh nq
      exact p _ _ _ g (.lst upd_same ((qx.append qy).mono g.f))
    · exact p.elim
  · exact p.elim
theorem de_add (ha : DB X W a f) (hb : DB X W b g) : DE X W (.BinOp a .Add b pos) (d2 addD f g) := de_op op_addA (opd_add _) ha hb
def subD : PyData → PyData → R PyData
  | .int i, .int j => .ok (.int (i - j))
  | _, _ => .bad
theorem opd_sub : OpD (rI0 fun i j => .int (i - j)) subD := by
  intro F H x y d e Q E fh bx bY p
  unfold subD at p
  split at p
  · have := bx.int; subst this; have := bY.int; subst this
    exact ⟨_, _, rfl, rfl, p _ F H (.refl fh) (.int _)⟩
  · exact p.elim
theorem de_sub (ha : DB X W a f) (hb : DB X W b g) : DE X W (.BinOp a .Sub b pos) (d2 subD f g) := de_op op_sub opd_sub ha hb
def LIM : Nat := 18446744073709551616
def mulD : PyData → PyData → R PyData
  | .int i, .int j => if i.natAbs < LIM ∨ j.natAbs < LIM then .ok (.int (i * j)) else .bad
  | .str x, .int k => if x.length ≤ 1000 ∧ 0 ≤ k ∧ k ≤ 1000 then .ok (.str (Txt.mul x k)) else .bad
  | .list xs, .int k => if 0 ≤ k ∧ k ≤ 1000 ∧ xs.length ≤ 1000 then .ok (.list (List.replicate k.toNat xs).flatten) else .bad
  | .tuple xs, .int k => if 2 ≤ k ∧ k ≤ 1000 ∧ xs.length ≤ 1000 ∧ xs ≠ [] then .ok (.tuple (List.replicate k.toNat xs).flatten) else .bad
  | _, _ => .bad
def rMulS : R2 := fun x y H Q => ∃ (z : Str) (k : Int), x = .str z ∧ y = .int k ∧ z.length ≤ 1000 ∧ 0 ≤ k ∧ k ≤ 1000 ∧ Q (.str (Txt.mul z k)) H
theorem op_mulS : OpR X (binaryOp .Mult) rMulS := by
  intro pins s σ H x y v u Q I rx ry h
  obtain ⟨z, k, rfl, rfl, h1, h2, h3, q⟩ := h
  obtain ⟨t, rfl⟩ := rx
  obtain ⟨t', rfl⟩ := ry
  refine SB.mul (mulOk_of 1000 1000 h1 h3 (by omega) (by decide) (by decide)) fun t'' k' => ?_
  exact ⟨.str _, H, I.tok _, ⟨_, rfl⟩, q⟩
def rMulA (K : PySem.W.Frag) : R2 := fun x y H Q => (rI CMul fun i j => .int (i * j)) x y H Q ∨ rMulS x y H Q ∨ rRep x y H Q ∨ rRepT K x y H Q
theorem op_mulA : OpR X (binaryOp .Mult) (rMulA X.K) := op_mul.or (op_mulS.or (op_rep.or op_repT))
theorem opd_mul (K : PySem.W.Frag) : OpD (rMulA K) mulD := by
  intro F H x y d e Q E fh bx bY p
  unfold mulD at p
  split at p
  · have := bx.int; subst this; have := bY.int; subst this
    split at p
    · rename_i i j hh
      refine .inl ⟨_, _, rfl, rfl, ?_, p _ F H (.refl fh) (.int _)⟩
      unfold LIM at hh
      rcases hh with hh | hh
      · exact .inl ⟨by omega, by omega⟩
      · exact .inr ⟨by omega, by omega⟩
    · exact p.elim
  · have := bx.str; subst this; have := bY.int; subst this
    split at p
    · rename_i hh
      exact .inr (.inl ⟨_, _, rfl, rfl, hh.1, hh.2.1, hh.2.2, p _ F H (.refl fh) (.str _)⟩)
    · exact p.elim
  · have := bY.int; subst this
    obtain ⟨ax, vx, rfl, hx, qx⟩ := bx.list fh
    split at p
    · rename_i k hh
      refine .inr (.inr (.inl ⟨ax, k, vx, rfl, rfl, hx, by omega, by omega, ?_, fun q nq => ?_⟩))
      · rw [qx.length]
        have : k.toNat ≤ 1000 := by omega
        exact Nat.le_trans (Nat.mul_le_mul hh.2.2 this) (by rw [sizeLine_eq]; decide)
      · have g := Grow.new (o := .lst (List.replicate k.toNat vx).flatten) fh nq
        exact p _ _ _ g (.lst upd_same ((DqA.flatten_rep _ qx).mono g.f))
    · exact p.elim
  · have := bY.int; subst this
    obtain ⟨ax, vx, rfl, fx, hx, qx⟩ := bx.tup fh
    split at p
    · rename_i k hh
      refine .inr (.inr (.inr ⟨ax, k, vx, rfl, rfl, .inl (.inl hx), fun e => hh.2.2.2 ((nil_iff qx).mp e), hh.1, hh.2.1, by rw [qx.length]; exact hh.2.2.1, fun q nq => ?_⟩))
      have g := Grow.new (o := .tup (List.replicate k.toNat vx).flatten) fh nq
      exact p _ _ _ g (.tup upd_same ((DqA.flatten_rep _ qx).mono g.f))
    · exact p.elim
  · exact p.elim
theorem de_mul (ha : DB X W a f) (hb : DB X W b g) : DE X W (.BinOp a .Mult b pos) (d2 mulD f g) := de_op op_mulA (opd_mul _) ha hb
def modD : PyData → PyData → R PyData
  | .int i, .int j => if 0 < j then .ok (.int (i % j)) else .bad
  | _, _ => .bad
theorem opd_mod : OpD (rI (fun _ j => 0 < j) fun i j => .int (i % j)) modD := by
  intro F H x y d e Q E fh bx bY p
  unfold modD at p
  split at p
  · have := bx.int; subst this; have := bY.int; subst this
    split at p
    · rename_i hh
      exact ⟨_, _, rfl, rfl, hh, p _ F H (.refl fh) (.int _)⟩
    · exact p.elim
  · exact p.elim
theorem de_mod (ha : DB X W a f) (hb : DB X W b g) : DE X W (.BinOp a .Mod b pos) (d2 modD f g) := de_op op_mod opd_mod ha hb
def divD : PyData → PyData → R PyData
  | .int i, .int j => if 0 < j ∧ j < 1073741824 then .ok (.int (i / j)) else .bad
  | _, _ => .bad
theorem opd_div : OpD (rI CDiv fun i j => .int (i / j)) divD := by
  intro F H x y d e Q E fh bx bY p
  unfold divD at p
  split at p
  · have := bx.int; subst this; have := bY.int; subst this
    split at p
    · rename_i hh
      exact ⟨_, _, rfl, rfl, hh, p _ F H (.refl fh) (.int _)⟩
    · exact p.elim
  · exact p.elim
theorem de_div (ha : DB X W a f) (hb : DB X W b g) : DE X W (.BinOp a .FloorDiv b pos) (d2 divD f g) := de_op op_fdiv opd_div ha hb

/-! ### comparisons on data -/
def eqD : PyData → PyData → R PyData
  | .str x, .str y => .ok (.bool (x == y))
  | d, e => if shp 60 d = true ∧ shp 60 e = true then .ok (.bool (PyData.eqv d e)) else .bad
def neD : PyData → PyData → R PyData
  | .str x, .str y => .ok (.bool (!(x == y)))
  | d, e => if shp 60 d = true ∧ shp 60 e = true then .ok (.bool (!PyData.eqv d e)) else .bad
theorem str_beq (x y : Str) : decide (V.str x = V.str y) = (x == y) := by
  by_cases e : x = y
  · subst e; simp
  · rw [decide_eq_false (fun z => e (by injection z)), beq_eq_false_iff_ne.mpr e]
theorem opd_eq (K : PySem.W.Frag) : OpD (fun x y H Q => rEq x y H Q ∨ rEqD K x y H Q) eqD := by
  intro F H x y d e Q E fh bx bY p
  unfold eqD at p
  split at p
  · have := bx.str; subst this; have := bY.str; subst this
    refine .inl ⟨rfl, ?_⟩
    rw [str_beq]
    exact p _ F H (.refl fh) (.bl _)
  · split at p
    · rename_i hh
      exact .inr ⟨d, e, bx.dp fh, bY.dp fh, shp_shaped hh.1, shp_shaped hh.2, p _ F H (.refl fh) (.bl _)⟩
    · exact p.elim
theorem opd_ne (K : PySem.W.Frag) : OpD (fun x y H Q => rNe x y H Q ∨ rNeD K x y H Q) neD := by
  intro F H x y d e Q E fh bx bY p
  unfold neD at p
  split at p
  · have := bx.str; subst this; have := bY.str; subst this
    refine .inl ⟨rfl, ?_⟩
    rw [str_beq]
    exact p _ F H (.refl fh) (.bl _)
  · split at p
    · rename_i hh
      exact .inr ⟨d, e, bx.dp fh, bY.dp fh, shp_shaped hh.1, shp_shaped hh.2, p _ F H (.refl fh) (.bl _)⟩
    · exact p.elim
theorem op_eqA {k : Nat} (hr : Room k X.A) : OpR X (compareOp .Eq) (fun x y H Q => rEq x y H Q ∨ rEqD X.K x y H Q) := op_eq.or (op_eqD hr.units)
theorem op_neA {k : Nat} (hr : Room k X.A) : OpR X (compareOp .NotEq) (fun x y H Q => rNe x y H Q ∨ rNeD X.K x y H Q) := op_ne.or (op_neD hr.units)
/-- order: ints, texts, tuples of ints -/
def intsOf : List PyData → Option (List Int)
  | [] => some []
  | .int i :: r => (intsOf r).map (i :: ·)
  | _ => none
theorem intsOf_eq : ∀ {ds : List PyData} {ns : List Int}, intsOf ds = some ns → ds = ns.map PyData.int
  | [], ns, h => by cases h; rfl
  | d :: r, ns, h => by
    cases d <;> first | (cases h; done) | skip
    rename_i i
    unfold intsOf at h
    cases e : intsOf r with
    | none => rw [e] at h; cases h
    | some m => rw [e] at h; cases h; rw [intsOf_eq e]; rfl
theorem intsOf_map : ∀ ns : List Int, intsOf (ns.map PyData.int) = some ns
  | [] => rfl
  | n :: r => by
    show (intsOf (r.map PyData.int)).map (n :: ·) = _
    rw [intsOf_map r]; rfl
def ltD : PyData → PyData → R PyData
  | .int i, .int j => .ok (.bool (decide (i < j)))
  | .str x, .str y => .ok (.bool (decide (x.cps.toList < y.cps.toList)))
  | .tuple xs, .tuple ys => match intsOf xs, intsOf ys with
    | some ns, some ms => .ok (.bool (HT.lexLt ns ms))
    | _, _ => .bad
  | _, _ => .bad
def rLtA (K : PySem.W.Frag) : R2 := fun x y H Q => (rI0 fun i j => .bl (decide (i < j))) x y H Q ∨ (∃ i j, x = .str i ∧ y = .str j ∧ Q (.bl (decide (i.cps.toList < j.cps.toList))) H) ∨ rLtT K x y H Q
theorem op_ltA {k : Nat} (hr : Room k X.A) : OpR X (compareOp .Lt) (rLtA X.K) := op_lt.or (op_lt_str.or (op_ltT hr.units0))
theorem opd_lt (K : PySem.W.Frag) : OpD (rLtA K) ltD := by
  intro F H x y d e Q E fh bx bY p
  unfold ltD at p
  split at p
  · have := bx.int; subst this; have := bY.int; subst this
    exact .inl ⟨_, _, rfl, rfl, p _ F H (.refl fh) (.bl _)⟩
  · have := bx.str; subst this; have := bY.str; subst this
    exact .inr (.inl ⟨_, _, rfl, rfl, p _ F H (.refl fh) (.bl _)⟩)
  · obtain ⟨ax, vx, rfl, fx, hx, qx⟩ := bx.tup fh
    obtain ⟨ay, vy, rfl, fy, hy, qy⟩ := bY.tup fh
    split at p
    · rename_i ns ms e1 e2
      rw [intsOf_eq e1] at qx
      rw [intsOf_eq e2] at qy
      have e3 := qx.ints; have e4 := qy.ints
      subst e3; subst e4
      exact .inr (.inr ⟨ax, ay, ns, ms, rfl, rfl, .inl (.inl hx), .inl (.inl hy), p _ F H (.refl fh) (.bl _)⟩)
    · exact p.elim
  · exact p.elim
def leD : PyData → PyData → R PyData
  | .int i, .int j => .ok (.bool (decide (i ≤ j)))
  | .str x, .str y => .ok (.bool (!decide (y.cps.toList < x.cps.toList)))
  | _, _ => .bad
def rLeA : R2 := fun x y H Q => (rI0 fun i j => .bl (decide (i ≤ j))) x y H Q ∨ (∃ i j, x = .str i ∧ y = .str j ∧ Q (.bl (!decide (j.cps.toList < i.cps.toList))) H)
theorem op_leA : OpR X (compareOp .LtE) rLeA := op_le.or op_le_str
theorem opd_le : OpD rLeA leD := by
  intro F H x y d e Q E fh bx bY p
  unfold leD at p
  split at p
  · have := bx.int; subst this; have := bY.int; subst this
    exact .inl ⟨_, _, rfl, rfl, p _ F H (.refl fh) (.bl _)⟩
  · have := bx.str; subst this; have := bY.str; subst this
    exact .inr ⟨_, _, rfl, rfl, p _ F H (.refl fh) (.bl _)⟩
  · exact p.elim
def geD : PyData → PyData → R PyData
  | .int i, .int j => .ok (.bool (decide (j ≤ i)))
  | _, _ => .bad
theorem opd_ge : OpD (rI0 fun i j => .bl (decide (j ≤ i))) geD := by
  intro F H x y d e Q E fh bx bY p
  unfold geD at p
  split at p
  · have := bx.int; subst this; have := bY.int; subst this
    exact ⟨_, _, rfl, rfl, p _ F H (.refl fh) (.bl _)⟩
  · exact p.elim
def gtD : PyData → PyData → R PyData
  | .int i, .int j => .ok (.bool (decide (j < i)))
  | _, _ => .bad
theorem opd_gt : OpD (rI0 fun i j => .bl (decide (j < i))) gtD := by
  intro F H x y d e Q E fh bx bY p
  unfold gtD at p
  split at p
  · have := bx.int; subst this; have := bY.int; subst this
    exact ⟨_, _, rfl, rfl, p _ F H (.refl fh) (.bl _)⟩
  · exact p.elim
/-- is, is not: with None, of bools -/
def isD : PyData → PyData → R PyData
  | .bool i, .bool j => .ok (.bool (decide (i = j)))
  | .none, .none => .ok (.bool true)
  | .bool _, .none => .ok (.bool false)
  | .int _, .none => .ok (.bool false)
  | .str _, .none => .ok (.bool false)
  | .list _, .none => .ok (.bool false)
  | .tuple _, .none => .ok (.bool false)
  | _, _ => .bad
def isnD (d e : PyData) : R PyData := (isD d e).bind fun z => (asBool z).bind fun k => .ok (.bool (!k))
def rIsA : R2 := fun x y H Q => (∃ a b, x = V.bl a ∧ y = V.bl b ∧ Q (.bl (decide (a = b))) H) ∨ (y = .non ∧ Q (.bl (decide (x = .non))) H)
def rIsnA : R2 := fun x y H Q => (∃ a b, x = V.bl a ∧ y = V.bl b ∧ Q (.bl (!decide (a = b))) H) ∨ (y = .non ∧ Q (.bl (!decide (x = .non))) H)
theorem op_isA : OpR X (compareOp .Is) rIsA := op_is_bl.or op_isN
theorem op_isnA : OpR X (compareOp .IsNot) rIsnA := op_isnot_bl.or op_notN
theorem opd_is : OpD rIsA isD := by
  intro F H x y d e Q E fh bx bY p
  unfold isD at p
  split at p
  · have := bx.bool; subst this; have := bY.bool; subst this
    exact .inl ⟨_, _, rfl, rfl, p _ F H (.refl fh) (.bl _)⟩
  · have := bx.non; subst this; have := bY.non; subst this
    exact .inr ⟨rfl, p _ F H (.refl fh) (.bl _)⟩
  · have := bx.bool; subst this; have := bY.non; subst this
    exact .inr ⟨rfl, p _ F H (.refl fh) (.bl _)⟩
  · have := bx.int; subst this; have := bY.non; subst this
    exact .inr ⟨rfl, p _ F H (.refl fh) (.bl _)⟩
  · have := bx.str; subst this; have := bY.non; subst this
    exact .inr ⟨rfl, p _ F H (.refl fh) (.bl _)⟩
  · obtain ⟨_, _, rfl, _⟩ := bx.list fh; have := bY.non; subst this
    exact .inr ⟨rfl, p _ F H (.refl fh) (.bl _)⟩
  · obtain ⟨_, _, rfl, _⟩ := bx.tup fh; have := bY.non; subst this
    exact .inr ⟨rfl, p _ F H (.refl fh) (.bl _)⟩
  · exact p.elim
theorem opd_isn : OpD rIsnA isnD := by
  intro F H x y d e Q E fh bx bY p
  unfold isnD isD at p
  split at p
  · have := bx.bool; subst this; have := bY.bool; subst this
    exact .inl ⟨_, _, rfl, rfl, p _ F H (.refl fh) (.bl _)⟩
  · have := bx.non; subst this; have := bY.non; subst this
    exact .inr ⟨rfl, p _ F H (.refl fh) (.bl _)⟩
  · have := bx.bool; subst this; have := bY.non; subst this
    exact .inr ⟨rfl, p _ F H (.refl fh) (.bl _)⟩
  · have := bx.int; subst this; have := bY.non; subst this
    exact .inr ⟨rfl, p _ F H (.refl fh) (.bl _)⟩
  · have := bx.str; subst this; have := bY.non; subst this
    exact .inr ⟨rfl, p _ F H (.refl fh) (.bl _)⟩
  · obtain ⟨_, _, rfl, _⟩ := bx.list fh; have := bY.non; subst this
    exact .inr ⟨rfl, p _ F H (.refl fh) (.bl _)⟩
  · obtain ⟨_, _, rfl, _⟩ := bx.tup fh; have := bY.non; subst this
    exact .inr ⟨rfl, p _ F H (.refl fh) (.bl _)⟩
  · exact p.elim
/-- in, not in: a text in a text, data in a list or a tuple -/
def subIs (x y : Str) : Bool := !(Builtin.Str.occurrences y x 0 y.length 1).isEmpty
def inD : PyData → PyData → R PyData
  | .str x, .str y => .ok (.bool (subIs x y))
  | d, .list xs => if shp 60 d = true ∧ xs.all (shp 59) = true then .ok (.bool (xs.any fun z => PyData.eqv z d)) else .bad
  | d, .tuple xs => if shp 60 d = true ∧ xs.all (shp 59) = true then .ok (.bool (xs.any fun z => PyData.eqv z d)) else .bad
  | _, _ => .bad
def notInD (d e : PyData) : R PyData := (inD d e).bind fun z => (asBool z).bind fun k => .ok (.bool (!k))
def rInT (K : PySem.W.Frag) : R2 := fun x y H Q => ∃ d ds, Dp K H x d ∧ Dp K H y (.tuple ds) ∧ SeqAt.shaped d = true ∧ SeqAt.shaped (.tuple ds) = true ∧ Q (.bl (ds.any fun z => PyData.eqv z d)) H
def rNotInT (K : PySem.W.Frag) : R2 := fun x y H Q => ∃ d ds, Dp K H x d ∧ Dp K H y (.tuple ds) ∧ SeqAt.shaped d = true ∧ SeqAt.shaped (.tuple ds) = true ∧ Q (.bl (!ds.any fun z => PyData.eqv z d)) H
theorem canAll {ds : List PyData} (se : SeqAt.shaped (.tuple ds) = true) : PyData.canLayAll0 ds = true := by
  have := SeqAt.canLay_of_shaped se
  simpa only [PyData.canLay0] using this
theorem op_inT (hu : X.A.units + 65 < cLine) : OpR X (compareOp .In) (rInT X.K) := by
  intro pins s σ H x y v u Q I rx ry h
  obtain ⟨d, ds, hd, he, sd, se, q⟩ := h
  obtain ⟨as, r1⟩ := Dp.reads I d x v hd rx
  obtain ⟨bs, r2⟩ := Dp.reads I (.tuple ds) y u he ry
  exact SeqAt.in_tuple_reads r2 r1 (canAll se) (SeqAt.canLay_of_shaped sd) (room_in_shaped sd hu) ⟨.bl _, H, I, rfl, q⟩
theorem op_notInT (hu : X.A.units + 65 < cLine) : OpR X (compareOp .NotIn) (rNotInT X.K) := by
  intro pins s σ H x y v u Q I rx ry h
  obtain ⟨d, ds, hd, he, sd, se, q⟩ := h
  obtain ⟨as, r1⟩ := Dp.reads I d x v hd rx
  obtain ⟨bs, r2⟩ := Dp.reads I (.tuple ds) y u he ry
  exact SeqAt.notIn_tuple_reads r2 r1 (canAll se) (SeqAt.canLay_of_shaped sd) (room_in_shaped sd hu) ⟨.bl _, H, I, rfl, q⟩
def rInStr : R2 := fun x y H Q => ∃ i j, x = .str i ∧ y = .str j ∧ Q (.bl (!(Builtin.Str.occurrences j i 0 j.length 1).isEmpty)) H
def rNotInStr : R2 := fun x y H Q => ∃ i j, x = .str i ∧ y = .str j ∧ Q (.bl (!(!(Builtin.Str.occurrences j i 0 j.length 1).isEmpty))) H
def rInA (K : PySem.W.Frag) : R2 := fun x y H Q => rInStr x y H Q ∨ rInD K x y H Q ∨ rInT K x y H Q
def rNotInA (K : PySem.W.Frag) : R2 := fun x y H Q => rNotInStr x y H Q ∨ rNotInD K x y H Q ∨ rNotInT K x y H Q
theorem op_inA {k : Nat} (hr : Room k X.A) : OpR X (compareOp .In) (rInA X.K) := OpR.or op_in_str ((op_inD (by have := hr.un; omega)).or (op_inT (by have := hr.un; omega)))
theorem op_notInA {k : Nat} (hr : Room k X.A) : OpR X (compareOp .NotIn) (rNotInA X.K) := OpR.or op_notin_str ((op_notInD (by have := hr.un; omega)).or (op_notInT (by have := hr.un; omega)))
theorem shp_list {xs : List PyData} (h : xs.all (shp 59) = true) : SeqAt.shaped (.list xs) = true := shp_shaped (show shp 60 (.list xs) = true from h)
theorem shp_tuple {xs : List PyData} (h : xs.all (shp 59) = true) : SeqAt.shaped (.tuple xs) = true := shp_shaped (show shp 60 (.tuple xs) = true from h)
theorem opd_in (K : PySem.W.Frag) : OpD (rInA K) inD := by
  intro F H x y d e Q E fh bx bY p
  unfold inD at p
  split at p
  · have := bx.str; subst this; have := bY.str; subst this
    exact .inl ⟨_, _, rfl, rfl, p _ F H (.refl fh) (.bl _)⟩
  · split at p
    · rename_i hh
      exact .inr (.inl ⟨_, _, bx.dp fh, bY.dp fh, shp_shaped hh.1, shp_list hh.2, p _ F H (.refl fh) (.bl _)⟩)
    · exact p.elim
  · split at p
    · rename_i hh
      exact .inr (.inr ⟨_, _, bx.dp fh, bY.dp fh, shp_shaped hh.1, shp_tuple hh.2, p _ F H (.refl fh) (.bl _)⟩)
    · exact p.elim
  · exact p.elim
theorem opd_notIn (K : PySem.W.Frag) : OpD (rNotInA K) notInD := by
  intro F H x y d e Q E fh bx bY p
  unfold notInD inD at p
  split at p
  · have := bx.str; subst this; have := bY.str; subst this
    exact .inl ⟨_, _, rfl, rfl, p _ F H (.refl fh) (.bl _)⟩
  · split at p
    · rename_i hh
      exact .inr (.inl ⟨_, _, bx.dp fh, bY.dp fh, shp_shaped hh.1, shp_list hh.2, p _ F H (.refl fh) (.bl _)⟩)
    · exact p.elim
  · split at p
    · rename_i hh
      exact .inr (.inr ⟨_, _, bx.dp fh, bY.dp fh, shp_shaped hh.1, shp_tuple hh.2, p _ F H (.refl fh) (.bl _)⟩)
    · exact p.elim
  · exact p.elim
end
end L3

namespace L3
open PySem PySem.Spec PyProof.Rows L2

section
variable {X : Cx} {W : WX} {a b c e : Expr} {es : List Expr} {f g h : Ev → R PyData} {pos p p2 apos : Pos} {x : Str}
/-! ### subscripts -/
def opt {α : Type} : Option α → R α
  | some a => .ok a
  | none => .bad
def ixD : PyData → PyData → R PyData
  | .list xs, .int i => opt (atI xs i)
  | .tuple xs, .int i => opt (atI xs i)
  | .str z, .int i => if z.length ≤ BIG then (opt (atI z.cps.toList i)).bind fun c => .ok (.str ⟨#[c]⟩) else .bad
  | _, _ => .bad
theorem DqA.at_ {F : Hp} {vs : List V} {ds : List PyData} {i : Int} {d : PyData} (q : DqA F vs ds) (h : atI ds i = some d) : ∃ v, atI vs i = some v ∧ Dq F v d := by
  unfold atI at h ⊢
  rw [← q.length] at h
  cases e : ixN vs.length i with
  | none => rw [e] at h; cases h
  | some j =>
    rw [e] at h
    exact q.get h
theorem opd_ix (K : PySem.W.Frag) : OpD (rIx K) ixD := by
  intro F H x y d e Q E fh bx bY p
  unfold ixD at p
  split at p
  · have := bY.int; subst this
    obtain ⟨l, vs, rfl, h1, h2⟩ := bx.list fh
    unfold opt at p
    split at p
    · rename_i hh
      obtain ⟨v, e1, e2⟩ := h2.at_ hh
      exact .inl ⟨l, vs, _, v, rfl, rfl, .inl (.inl h1), e1, p v F H (.refl fh) e2⟩
    · exact p.elim
  · have := bY.int; subst this
    obtain ⟨l, vs, rfl, h0, h1, h2⟩ := bx.tup fh
    unfold opt at p
    split at p
    · rename_i hh
      obtain ⟨v, e1, e2⟩ := h2.at_ hh
      exact .inr (.inl ⟨l, vs, _, v, rfl, rfl, .inl (.inl h1), e1, p v F H (.refl fh) e2⟩)
    · exact p.elim
  · have := bx.str; subst this; have := bY.int; subst this
    split at p
    · rename_i z i hh
      cases e1 : atI z.cps.toList i with
      | none => rw [e1] at p; exact p.elim
      | some c =>
        rw [e1] at p
        exact .inr (.inr ⟨z, i, c, rfl, rfl, big_le hh, e1, p _ F H (.refl fh) (.str _)⟩)
    · exact p.elim
  · exact p.elim
theorem de_ix (ha : DB X W a f) (hb : DB X W b g) (hs : PlainIx b := by exact fun _ _ => rfl) : DE X W (.Subscript a b pos) (d2 ixD f g) := pre_E (pe_ix ix_seq ha hb hs) fun σ H Q p => d2_run (opd_ix _) p
/-! ### slices -/
def tDO (K : PySem.W.Frag) (mg : Str → Option Value) (W : WX) (f : Ev → R (Option Int)) : TO := fun σ H Q => ∃ H0 F env, Rl K mg H0 env σ F H ∧
  Post (f env) (fun o => ∀ F' H', Grow F H F' H' → Q o H') (fun c => ∀ F' H', Grow F H F' H' → W (cav mg c) none σ H')
def DO (X : Cx) (W : WX) (e : Option Expr) (f : Ev → R (Option Int)) : Prop := PO X e (tDO X.K X.mg W f)
theorem pre_O {X : Cx} {e : Option Expr} {t t' : TO} (h : PO X e t) (k : ∀ σ H Q, t' σ H Q → t σ H Q) : PO X e t' := ⟨fun pins s σ H Q I q => h.run pins s σ H Q I (k σ H Q q)⟩
def oNone : Ev → R (Option Int) := fun _ => .ok none
def asInt : PyData → R Int
  | .int i => .ok i
  | _ => .bad
def oSome (f : Ev → R PyData) : Ev → R (Option Int) := fun env => (f env).bind fun x => (asInt x).bind fun i => .ok (some i)
theorem do_none : DO X W none oNone := pre_O po_none fun σ H Q ⟨H0, F, env, r, p⟩ => p F H (.refl r.fh)
theorem do_some (ha : DE X W a f) : DO X W (some a) (oSome f) := pre_O (po_some ha) fun σ H Q ⟨H0, F, env, rl, p⟩ => by
  refine ⟨H0, F, env, rl, (Post.bind p).mono (fun d p1 v F1 H1 g1 q => ?_) fun c p1 => p1⟩
  cases d <;> first | exact p1.elim | skip
  cases q
  exact ⟨_, rfl, p1 F1 H1 g1⟩
def cutD {α : Type} (xs : List α) (lo hi : Option Int) : List α := (xs.drop (HT.sIx xs.length 0 lo)).take (HT.sIx xs.length xs.length hi - HT.sIx xs.length 0 lo)
theorem DqA.cut {F : Hp} {vs : List V} {ds : List PyData} (q : DqA F vs ds) (lo hi : Option Int) : DqA F (cutV vs lo hi) (cutD ds lo hi) := by
  unfold cutV cutD
  rw [q.length]
  exact (q.drop _).take _
def sliceD (d : PyData) (lo hi : Option Int) : R PyData := match d with
  | .list xs => .ok (.list (cutD xs lo hi))
  | .tuple xs => .ok (.tuple (cutD xs lo hi))
  | .str z => if z.length ≤ BIG then .ok (.str (cutS z lo hi)) else .bad
  | _ => .bad
def rSlA3 (K : PySem.W.Frag) : V → Option Int → Option Int → Hp → VK → Prop := fun x lo hi H Q => rSlL K x lo hi H Q ∨ rSlA K x lo hi H Q ∨ rSlS x lo hi H Q
theorem sl_A3 : SlR X (rSlA3 X.K) := sl_list.or (sl_tupA.or sl_str)
theorem cut_all {α : Type} (xs : List α) (lo hi : Option Int) (h1 : HT.sIx xs.length 0 lo = 0) (h2 : HT.sIx xs.length xs.length hi = xs.length) : cutD xs lo hi = xs := by
  unfold cutD
  rw [h1, h2]
  simp
theorem sld (K : PySem.W.Frag) {F H : Hp} {x : V} {d : PyData} {lo hi : Option Int} {Q : VK} {E : Str → Prop} (fh : Same F H) (bx : Bq F H x d) (p : Post (sliceD d lo hi) (fun z => ∀ v F' H', Grow F H F' H' → Dq F' v z → Q v H') E) : rSlA3 K x lo hi H Q := by
  unfold sliceD at p
  split at p
  · obtain ⟨l, vs, rfl, h1, h2⟩ := bx.list fh
    refine .inl ⟨l, vs, rfl, .inl (.inl h1), fun q nq => ?_⟩
    have g := Grow.new (o := .lst (cutV vs lo hi)) fh nq
    exact p _ _ _ g (.lst upd_same ((h2.cut lo hi).mono g.f))
  · rename_i xs
    obtain ⟨l, vs, rfl, h0, h1, h2⟩ := bx.tup fh
    refine .inr (.inl ⟨l, vs, rfl, .inl (.inl h1), fun ⟨e1, e2⟩ => ?_, fun _ q nq => ?_⟩)
    · rw [h2.length] at e1 e2
      rw [cut_all xs lo hi e1 e2] at p
      exact p _ F H (.refl fh) (.tup h0 h2)
    · have g := Grow.new (o := .tup (cutV vs lo hi)) fh nq
      exact p _ _ _ g (.tup upd_same ((h2.cut lo hi).mono g.f))
  · have := bx.str; subst this
    split at p
    · rename_i z hh
      exact .inr (.inr ⟨z, rfl, big_le hh, p _ F H (.refl fh) (.str _)⟩)
    · exact p.elim
  · exact p.elim
def dSlice (f : Ev → R PyData) (l u : Ev → R (Option Int)) : Ev → R PyData := fun env => (f env).bind fun x => (l env).bind fun lo => (u env).bind fun hi => sliceD x lo hi
theorem de_slice {lo hi : Option Expr} {l u : Ev → R (Option Int)} (ha : DB X W a f) (hl : DO X W lo l) (hu : DO X W hi u) : DE X W (.Subscript a (.Slice lo hi none p2) pos) (dSlice f l u) := pre_E (pe_slice sl_A3 ha hl hu) fun σ H Q ⟨H0, F, env, rl, p⟩ => by
  refine ⟨H0, F, env, rl, (Post.bind p).mono (fun d p1 v F1 H1 g1 b1 => ?_) fun c p1 => p1⟩
  refine ⟨H0, F1, env, rl.grow g1, (Post.bind p1).mono (fun o p2 F2 H2 g2 => ?_) fun c p2 F' H' g' => p2 F' H' (g1.trans g')⟩
  have g12 := g1.trans g2
  refine ⟨H0, F2, env, rl.grow g12, (Post.bind p2).mono (fun o2 p3 F3 H3 g3 => ?_) fun c p2 F' H' g' => p2 F' H' (g12.trans g')⟩
  exact sld _ g3.fh ((b1.grow g2).grow g3) (p3.mono (fun z k v F' H' g' q => k v F' H' ((g12.trans g3).trans g') q) fun _ k => k)

/-! ### lists of arguments, displays -/
def tDL (K : PySem.W.Frag) (mg : Str → Option Value) (W : WX) (f : Ev → R (List PyData)) : TA := fun σ H Q => ∃ H0 F env, Rl K mg H0 env σ F H ∧
  Post (f env) (fun ds => ∀ vs F' H', Grow F H F' H' → DqA F' vs ds → Q vs H') (fun c => ∀ F' H', Grow F H F' H' → W (cav mg c) none σ H')
def DL (X : Cx) (W : WX) (es : List Expr) (f : Ev → R (List PyData)) : Prop := PA X es (tDL X.K X.mg W f)
def lNil : Ev → R (List PyData) := fun _ => .ok []
def lCons (f : Ev → R PyData) (g : Ev → R (List PyData)) : Ev → R (List PyData) := fun env => (f env).bind fun d => (g env).bind fun ds => .ok (d :: ds)
theorem dl_nil : DL X W [] lNil := pre_A pa_nil fun σ H Q ⟨H0, F, env, r, p⟩ => p [] F H (.refl r.fh) .nil
theorem dl_cons {l : Ev → R (List PyData)} (ha : DE X W e f) (hr : DL X W es l) (hs : starEach (e :: es) X.env = (false, eval e X.env) :: starEach es X.env := by rfl) : DL X W (e :: es) (lCons f l) := pre_A (pa_cons ha hr hs) fun σ H Q ⟨H0, F, env, rl, p⟩ => by
  refine ⟨H0, F, env, rl, (Post.bind p).mono (fun d p1 v F1 H1 g1 b1 => ?_) fun c p1 => p1⟩
  refine ⟨H0, F1, env, rl.grow g1, (Post.bind p1).mono (fun ds p2 vs F2 H2 g2 b2 => ?_) fun c p2 F' H' g' => p2 F' H' (g1.trans g')⟩
  exact p2 (v :: vs) F2 H2 (g1.trans g2) (.cons (b1.mono g2.f) b2)
def mkTup (ds : List PyData) : R PyData := if ds.length ≤ BIG then .ok (.tuple ds) else .bad
def mkLst (ds : List PyData) : R PyData := if ds.length ≤ BIG then .ok (.list ds) else .bad
def dTup (l : Ev → R (List PyData)) : Ev → R PyData := fun env => (l env).bind mkTup
def dLst (l : Ev → R (List PyData)) : Ev → R PyData := fun env => (l env).bind mkLst
theorem de_tup {x1} {l : Ev → R (List PyData)} (h : DL X W es l) : DE X W (.Tuple es x1 pos) (dTup l) := pre_E (pe_tup h) fun σ H Q ⟨H0, F, env, rl, p⟩ => by
  refine ⟨H0, F, env, rl, (Post.bind p).mono (fun ds p1 vs F1 H1 g1 b1 => ?_) fun c p1 => p1⟩
  unfold mkTup at p1
  split at p1
  · rename_i hh
    refine ⟨by rw [b1.length]; exact big_le hh, fun q nq => ?_⟩
    have g := Grow.new (o := .tup vs) g1.fh nq
    exact p1 _ _ _ (g1.trans g) (.tup upd_same (b1.mono g.f))
  · exact p1.elim
theorem de_lst {l : Ev → R (List PyData)} (h : DL X W es l) : DE X W (.List es pos) (dLst l) := pre_E (pe_lst h) fun σ H Q ⟨H0, F, env, rl, p⟩ => by
  refine ⟨H0, F, env, rl, (Post.bind p).mono (fun ds p1 vs F1 H1 g1 b1 => ?_) fun c p1 => p1⟩
  unfold mkLst at p1
  split at p1
  · rename_i hh
    refine ⟨by rw [b1.length]; exact big_le hh, fun q nq => ?_⟩
    have g := Grow.new (o := .lst vs) g1.fh nq
    exact p1 _ _ _ (g1.trans g) (.lst upd_same (b1.mono g.f))
  · exact p1.elim
def aNil : Ev → R (List Sl) := fun _ => .ok []
def aCons (f : Ev → R PyData) (g : Ev → R (List Sl)) : Ev → R (List Sl) := fun env => (f env).bind fun d => (g env).bind fun ds => .ok (.val d :: ds)
def scrAt (i : Nat) (env : Ev) : R Sl := match sget env i with
  | .scr ns => .ok (.scr ns)
  | _ => .bad
def aScr (i : Nat) (g : Ev → R (List Sl)) : Ev → R (List Sl) := fun env => (scrAt i env).bind fun d => (g env).bind fun ds => .ok (d :: ds)
theorem da_nil : DA X W [] aNil := pre_A pa_nil fun σ H Q ⟨H0, F, env, r, p⟩ => p [] F H (.refl r.fh) trivial
theorem da_cons {l : Ev → R (List Sl)} (ha : DE X W e f) (hr : DA X W es l) (hs : starEach (e :: es) X.env = (false, eval e X.env) :: starEach es X.env := by rfl) : DA X W (e :: es) (aCons f l) := pre_A (pa_cons ha hr hs) fun σ H Q ⟨H0, F, env, rl, p⟩ => by
  refine ⟨H0, F, env, rl, (Post.bind p).mono (fun d p1 v F1 H1 g1 b1 => ?_) fun c p1 => p1⟩
  refine ⟨H0, F1, env, rl.grow g1, (Post.bind p1).mono (fun ds p2 vs F2 H2 g2 b2 => ?_) fun c p2 F' H' g' => p2 F' H' (g1.trans g')⟩
  exact p2 (v :: vs) F2 H2 (g1.trans g2) ⟨⟨v, rfl, b1.mono g2.f⟩, trivial, b2⟩
theorem da_scr (i : Nat) {l : Ev → R (List Sl)} (hr : DA X W es l) (hN : X.N[i]? = some x := by rfl) (hv : Vis X.env.scope x := by first | exact Or.inl rfl | exact Or.inr (Or.inl rfl) | exact Or.inr (Or.inr rfl)) (hd : (x == ("__debug__" : Str)) = false := by decide)
    (hcd : (x == ("__classdict__" : Str)) = false := by decide) (hs : starEach (.Name x pos :: es) X.env = (false, eval (.Name x pos) X.env) :: starEach es X.env := by rfl) : DA X W (.Name x pos :: es) (aScr i l) := pre_A (pa_cons (pe_var hN hv hd hcd) hr hs) fun σ H Q ⟨H0, F, env, rl, p⟩ => by
  have p := Post.bind p
  unfold scrAt at p
  cases e : sget env i with
  | scr ns =>
    rw [e] at p
    obtain ⟨l, e1, e2⟩ := rl.scr e
    refine ⟨_, e1, H0, F, env, rl, (Post.bind p).mono (fun ds p2 vs F2 H2 g2 b2 => ?_) fun c p2 => p2⟩
    exact p2 _ F2 H2 g2 ⟨⟨l, rfl, e2.mono g2.h⟩, trivial, b2⟩
  | _ => rw [e] at p; exact p.elim

/-! ### calls of defs -/
def spD (K : PySem.W.Frag) (mg : Str → Option Value) (m : List Sl → R PyData) (n : Nat) : Sp := fun vs H Q E => ∃ F ss, Same F H ∧ SlA K mg F H vs ss ∧ ss.length = n ∧
  Post (m ss) (fun d => ∀ v F' H', Grow F H F' H' → Dq F' v d → Q v H') (fun c => ∀ F' H', Grow F H F' H' → E (cav mg c) none H')
theorem SlA.length {K : PySem.W.Frag} {mg : Mg} {F H : Hp} : ∀ {vs : List V} {ss : List Sl}, SlA K mg F H vs ss → vs.length = ss.length
  | [], [], _ => rfl
  | v :: vs, s :: ss, ⟨h1, h2, h3⟩ => by show _ + 1 = _ + 1; rw [SlA.length h3]
  | [], _ :: _, h => h.elim
  | _ :: _, [], h => h.elim
abbrev Fn (P : Program) (w : World) (K : PySem.W.Frag) (mg : Str → Option Value) (base : Heap) (k : Nat) (fa : Addr) (fd : FuncData) (ps : List Str) (m : List Sl → R PyData) : Prop := FnOk P w K mg base (L2.CX P w) k fa fd ps (spD K mg m ps.length)
def guardLen {α : Type} (n : Nat) (ss : List α) : R (List α) := if ss.length = n then .ok ss else .bad
def dCall (n : Nat) (m : List Sl → R PyData) (l : Ev → R (List Sl)) : Ev → R PyData := fun env => (l env).bind fun ss => (guardLen n ss).bind m
theorem de_call {k : Nat} {fa : Addr} {fd : FuncData} {ps : List Str} {m : List Sl → R PyData} {l : Ev → R (List Sl)} (F : Fn X.prog X.w X.K X.mg X.base k fa fd ps m) (hm : X.mg x = some (.ref fa)) (hk : PySem.W.keepIn X.K (.ref fa) = true) (hb : Binds X.K fd ps [])
    (hr : Room k X.A) (tk : Takes X W) (ha : DA X W (e :: es) l) (hg : Gl X x := by rfl) (hdb : (x == ("__debug__" : Str)) = false := by decide) (he : starEach (e :: es) X.env = (false, eval e X.env) :: starEach es X.env := by rfl)
    (hpl : (backTo pos (starEach es X.env)).any (·.1) = false := by rfl) : DE X W (.Call (.Name x p) (e :: es) [] pos) (dCall ps.length m l) := pre_E (pe_callS F hr hg hm hk hb (fun σ => passAt tk σ) ha hdb he hpl) fun σ H Q ⟨H0, F, env, rl, p⟩ => by
  refine ⟨H0, F, env, rl, (Post.bind p).mono (fun ss p1 vs F1 H1 g1 b1 => ?_) fun c p1 => p1⟩
  have p1 := Post.bind p1
  unfold guardLen at p1
  split at p1
  · rename_i hh
    exact ⟨F1, ss, g1.fh, b1, hh, Post.mono (show Post (m ss) _ _ from p1) (fun d k v F' H' g' q => k v F' H' (g1.trans g') q) fun c k F' H' g' => k F' H' (g1.trans g')⟩
  · exact p1.elim

/-! ### builtins -/
def CallD (r : List V → Hp → VK → Prop) (gg : PyData → R PyData) : Prop := ∀ (F H : Hp) (v : V) (d : PyData) (Q : VK) (E : Str → Prop), Same F H → Bq F H v d →
  Post (gg d) (fun z => ∀ v F' H', Grow F H F' H' → Dq F' v z → Q v H') E → r [v] H Q
theorem d1_run {r : List V → Hp → VK → Prop} {gg : PyData → R PyData} (hg : CallD r gg) {σ : L2.St} {H : Hp} {Q : VK} (p : tD X.K X.mg W (d1 gg f) σ H Q) : tCB r (tCons (tBo X.K X.mg W f) tNil) σ H Q := by
  obtain ⟨H0, F, env, rl, p⟩ := p
  refine ⟨H0, F, env, rl, (Post.bind p).mono (fun d p1 v F1 H1 g1 b1 => ?_) fun c p1 => p1⟩
  exact hg F1 H1 v d _ _ g1.fh b1 (p1.mono (fun z k v F' H' g' q => k v F' H' (g1.trans g') q) fun _ k => k)
theorem de_callB {id : String} {r : List V → Hp → VK → Prop} {gg : PyData → R PyData} (hc : CallR X (.builtin id) r) (hg : CallD r gg) (hm : X.mg x = none) (ha : DB X W a f) (hgl : Gl X x := by rfl) (hv : bootBuiltins x = some (.builtin id) := by decide +kernel)
    (hn : x ≠ "__name__" := by decide) (hdb : (x == ("__debug__" : Str)) = false := by decide) (he : starEach (a :: []) X.env = (false, eval a X.env) :: starEach [] X.env := by rfl) (hpl : (backTo pos (starEach [] X.env)).any (·.1) = false := by rfl) :
    DE X W (.Call (.Name x p) [a] [] pos) (d1 gg f) := pre_E (pe_callB hc hgl hm hv (pa_cons ha pa_nil he) hn hdb he hpl) fun σ H Q p => d1_run hg p
theorem de_callTy {T : String} {r : List V → Hp → VK → Prop} {gg : PyData → R PyData} (hc : CallR X (.type T) r) (hg : CallD r gg) (hm : X.mg x = none) (ha : DB X W a f) (hgl : Gl X x := by rfl) (hv : bootBuiltins x = some (.type T) := by decide +kernel)
    (hn : x ≠ "__name__" := by decide) (hdb : (x == ("__debug__" : Str)) = false := by decide) (he : starEach (a :: []) X.env = (false, eval a X.env) :: starEach [] X.env := by rfl) (hpl : (backTo pos (starEach [] X.env)).any (·.1) = false := by rfl) :
    DE X W (.Call (.Name x p) [a] [] pos) (d1 gg f) := pre_E (pe_callTy hc hgl hm hv (pa_cons ha pa_nil he) hn hdb he hpl) fun σ H Q p => d1_run hg p
def lenD : PyData → R PyData
  | .str z => if z.length ≤ BIG then .ok (.int z.length) else .bad
  | .list xs => .ok (.int xs.length)
  | .tuple xs => .ok (.int xs.length)
  | _ => .bad
theorem cd_len (K : PySem.W.Frag) : CallD (fun xs H Q => ∃ x n, xs = [x] ∧ LenV K x H n ∧ Q (.int n) H) lenD := by
  intro F H v d Q E fh b p
  unfold lenD at p
  split at p
  · have := b.str; subst this
    split at p
    · rename_i hh
      exact ⟨_, _, rfl, ⟨big_le hh, rfl⟩, p _ F H (.refl fh) (.int _)⟩
    · exact p.elim
  · obtain ⟨l, vs, rfl, h1, h2⟩ := b.list fh
    refine ⟨_, _, rfl, .inl ⟨vs, .inl (.inl h1), rfl⟩, ?_⟩
    rw [h2.length]
    exact p _ F H (.refl fh) (.int _)
  · obtain ⟨l, vs, rfl, h0, h1, h2⟩ := b.tup fh
    refine ⟨_, _, rfl, .inr ⟨vs, .inl (.inl h1), rfl⟩, ?_⟩
    rw [h2.length]
    exact p _ F H (.refl fh) (.int _)
  · exact p.elim
theorem de_len (hm : X.mg "len" = none) (ha : DB X W a f) (hgl : Gl X "len" := by rfl) (he : starEach (a :: []) X.env = (false, eval a X.env) :: starEach [] X.env := by rfl) (hpl : (backTo pos (starEach [] X.env)).any (·.1) = false := by rfl) :
    DE X W (.Call (.Name "len" p) [a] [] pos) (d1 lenD f) := de_callB call_len (cd_len _) hm ha hgl boot_len (by decide) (by decide) he hpl
def intD : PyData → R PyData
  | .int i => .ok (.int i)
  | .bool k => .ok (.int (if k then 1 else 0))
  | _ => .bad
theorem cd_int : CallD (fun xs H Q => (∃ i, xs = [.int i] ∧ Q (.int i) H) ∨ ∃ k, xs = [.bl k] ∧ Q (.int (if k then 1 else 0)) H) intD := by
  intro F H v d Q E fh b p
  unfold intD at p
  split at p
  · have := b.int; subst this; exact .inl ⟨_, rfl, p _ F H (.refl fh) (.int _)⟩
  · have := b.bool; subst this; exact .inr ⟨_, rfl, p _ F H (.refl fh) (.int _)⟩
  · exact p.elim
theorem de_intc (hm : X.mg "int" = none) (ha : DB X W a f) (hgl : Gl X "int" := by rfl) (he : starEach (a :: []) X.env = (false, eval a X.env) :: starEach [] X.env := by rfl) :
    DE X W (.Call (.Name "int" p) [a] [] pos) (d1 intD f) := de_callTy call_int1 cd_int hm ha hgl PyProof.Rows.boot_int (by decide) (by decide) he
def tupleD : PyData → R PyData
  | .list xs => .ok (.tuple xs)
  | .tuple xs => .ok (.tuple xs)
  | _ => .bad
theorem cd_tuple (K : PySem.W.Frag) : CallD (fun xs H Q => ∃ p ys, xs = [.ref p] ∧ ((SqL K H p ys ∧ ∀ l, H l = none → Q (.ref l) (upd H l (.tup ys))) ∨ (SqT K H p ys ∧ Q (.ref p) H))) tupleD := by
  intro F H v d Q E fh b p
  unfold tupleD at p
  split at p
  · obtain ⟨l, vs, rfl, h1, h2⟩ := b.list fh
    refine ⟨_, vs, rfl, .inl ⟨.inl (.inl h1), fun q nq => ?_⟩⟩
    have g := Grow.new (o := .tup vs) fh nq
    exact p _ _ _ g (.tup upd_same (h2.mono g.f))
  · obtain ⟨l, vs, rfl, h0, h1, h2⟩ := b.tup fh
    exact ⟨_, vs, rfl, .inr ⟨.inl (.inl h1), p _ F H (.refl fh) (.tup h0 h2)⟩⟩
  · exact p.elim
theorem de_tuplec (hm : X.mg "tuple" = none) (ha : DB X W a f) (hgl : Gl X "tuple" := by rfl) (he : starEach (a :: []) X.env = (false, eval a X.env) :: starEach [] X.env := by rfl) :
    DE X W (.Call (.Name "tuple" p) [a] [] pos) (d1 tupleD f) := de_callTy call_tuple_of (cd_tuple _) hm ha hgl PyProof.Rows.boot_tuple (by decide) (by decide) he
def listD : PyData → R PyData
  | .list xs => .ok (.list xs)
  | .tuple xs => .ok (.list xs)
  | _ => .bad
theorem cd_list (K : PySem.W.Frag) : CallD (fun xs H Q => ∃ p ys, xs = [.ref p] ∧ (SqL K H p ys ∨ SqT K H p ys) ∧ ∀ l, H l = none → Q (.ref l) (upd H l (.lst ys))) listD := by
  intro F H v d Q E fh b p
  unfold listD at p
  split at p
  · obtain ⟨l, vs, rfl, h1, h2⟩ := b.list fh
    refine ⟨_, vs, rfl, .inl (.inl (.inl h1)), fun q nq => ?_⟩
    have g := Grow.new (o := .lst vs) fh nq
    exact p _ _ _ g (.lst upd_same (h2.mono g.f))
  · obtain ⟨l, vs, rfl, h0, h1, h2⟩ := b.tup fh
    refine ⟨_, vs, rfl, .inr (.inl (.inl h1)), fun q nq => ?_⟩
    have g := Grow.new (o := .lst vs) fh nq
    exact p _ _ _ g (.lst upd_same (h2.mono g.f))
  · exact p.elim
theorem de_listc (hm : X.mg "list" = none) (ha : DB X W a f) (hgl : Gl X "list" := by rfl) (he : starEach (a :: []) X.env = (false, eval a X.env) :: starEach [] X.env := by rfl) :
    DE X W (.Call (.Name "list" p) [a] [] pos) (d1 listD f) := de_callTy call_list_of (cd_list _) hm ha hgl PyProof.Rows.boot_list (by decide) (by decide) he
def boolsOf : List PyData → Option (List Bool)
  | [] => some []
  | .bool i :: r => (boolsOf r).map (i :: ·)
  | _ => none
theorem boolsOf_eq : ∀ {ds : List PyData} {ns : List Bool}, boolsOf ds = some ns → ds = ns.map PyData.bool
  | [], ns, h => by cases h; rfl
  | d :: r, ns, h => by
    cases d <;> first | (cases h; done) | skip
    rename_i i
    unfold boolsOf at h
    cases e : boolsOf r with
    | none => rw [e] at h; cases h
    | some m => rw [e] at h; cases h; rw [boolsOf_eq e]; rfl
theorem boolsOf_map : ∀ ns : List Bool, boolsOf (ns.map PyData.bool) = some ns
  | [] => rfl
  | n :: r => by
    show (boolsOf (r.map PyData.bool)).map (n :: ·) = _
    rw [boolsOf_map r]; rfl
def strsOf : List PyData → Option (List Str)
  | [] => some []
  | .str i :: r => (strsOf r).map (i :: ·)
  | _ => none
theorem strsOf_eq : ∀ {ds : List PyData} {ns : List Str}, strsOf ds = some ns → ds = ns.map PyData.str
  | [], ns, h => by cases h; rfl
  | d :: r, ns, h => by
    cases d <;> first | (cases h; done) | skip
    rename_i i
    unfold strsOf at h
    cases e : strsOf r with
    | none => rw [e] at h; cases h
    | some m => rw [e] at h; cases h; rw [strsOf_eq e]; rfl
theorem strsOf_map : ∀ ns : List Str, strsOf (ns.map PyData.str) = some ns
  | [] => rfl
  | n :: r => by
    show (strsOf (r.map PyData.str)).map (n :: ·) = _
    rw [strsOf_map r]; rfl
def sumD : PyData → R PyData
  | .list xs => (opt (intsOf xs)).bind fun ns => .ok (.int ns.sum)
  | _ => .bad
theorem cd_sum (K : PySem.W.Frag) : CallD (rSum K) sumD := by
  intro F H v d Q E fh b p
  unfold sumD at p
  split at p
  · rename_i xs
    obtain ⟨l, vs, rfl, h1, h2⟩ := b.list fh
    cases e : intsOf xs with
    | none => rw [e] at p; exact p.elim
    | some ns =>
      rw [e] at p
      rw [intsOf_eq e] at h2
      have e1 := h2.ints; subst e1
      exact ⟨l, ns, rfl, .inl (.inl h1), p _ F H (.refl fh) (.int _)⟩
  · exact p.elim
theorem de_sum (hc : X.calm = true) (hm : X.mg "sum" = none) (ha : DB X W a f) (hgl : Gl X "sum" := by rfl) (he : starEach (a :: []) X.env = (false, eval a X.env) :: starEach [] X.env := by rfl) (hpl : (backTo pos (starEach [] X.env)).any (·.1) = false := by rfl) :
    DE X W (.Call (.Name "sum" p) [a] [] pos) (d1 sumD f) := de_callB (cr_sum hc) (cd_sum _) hm ha hgl (by decide +kernel) (by decide) (by decide) he hpl
def allD : PyData → R PyData
  | .list xs => (opt (boolsOf xs)).bind fun ns => .ok (.bool (ns.all id))
  | _ => .bad
theorem cd_all (K : PySem.W.Frag) : CallD (rAll K) allD := by
  intro F H v d Q E fh b p
  unfold allD at p
  split at p
  · rename_i xs
    obtain ⟨l, vs, rfl, h1, h2⟩ := b.list fh
    cases e : boolsOf xs with
    | none => rw [e] at p; exact p.elim
    | some ns =>
      rw [e] at p
      rw [boolsOf_eq e] at h2
      have e1 := h2.bools; subst e1
      exact ⟨l, ns, rfl, .inl (.inl h1), p _ F H (.refl fh) (.bl _)⟩
  · exact p.elim
theorem de_all (hc : X.calm = true) (hm : X.mg "all" = none) (ha : DB X W a f) (hgl : Gl X "all" := by rfl) (he : starEach (a :: []) X.env = (false, eval a X.env) :: starEach [] X.env := by rfl) (hpl : (backTo pos (starEach [] X.env)).any (·.1) = false := by rfl) :
    DE X W (.Call (.Name "all" p) [a] [] pos) (d1 allD f) := de_callB (cr_all hc) (cd_all _) hm ha hgl (by decide +kernel) (by decide) (by decide) he hpl
def maxL : List Int → Int
  | [] => 0
  | [x] => x
  | x :: r => if maxL r > x then maxL r else x
theorem maxL_spec : ∀ {ns : List Int}, ns ≠ [] → maxL ns ∈ ns ∧ ∀ y ∈ ns, y ≤ maxL ns
  | [], h => absurd rfl h
  | [x], _ => by simp [maxL]
  | x :: y :: r, _ => by
    obtain ⟨h1, h2⟩ := maxL_spec (ns := y :: r) (by simp)
    show (if maxL (y :: r) > x then maxL (y :: r) else x) ∈ _ ∧ ∀ z ∈ _, z ≤ (if maxL (y :: r) > x then maxL (y :: r) else x)
    split
    · rename_i hh
      refine ⟨List.mem_cons_of_mem _ h1, fun z hz => ?_⟩
      rcases List.mem_cons.mp hz with rfl | hz
      · omega
      · exact h2 z hz
    · rename_i hh
      refine ⟨List.mem_cons_self, fun z hz => ?_⟩
      rcases List.mem_cons.mp hz with rfl | hz
      · omega
      · have := h2 z hz; omega
def maxD1 : PyData → R PyData
  | .list xs => (opt (intsOf xs)).bind fun ns => if ns.isEmpty then .bad else .ok (.int (maxL ns))
  | _ => .bad
theorem cd_max1 (K : PySem.W.Frag) : CallD (rMax K) maxD1 := by
  intro F H v d Q E fh b p
  unfold maxD1 at p
  split at p
  · rename_i xs
    obtain ⟨l, vs, rfl, h1, h2⟩ := b.list fh
    cases e : intsOf xs with
    | none => rw [e] at p; exact p.elim
    | some ns =>
      rw [e] at p
      rw [intsOf_eq e] at h2
      have e1 := h2.ints; subst e1
      cases ns with
      | nil => exact p.elim
      | cons n r =>
        refine ⟨l, n :: r, rfl, .inl (.inl h1), by simp, fun m hm hle => ?_⟩
        obtain ⟨k1, k2⟩ := maxL_spec (ns := n :: r) (by simp)
        have e2 : m = maxL (n :: r) := by have := k2 m hm; have := hle _ k1; omega
        subst e2
        exact p _ F H (.refl fh) (.int _)
  · exact p.elim
theorem de_max1 (hc : X.calm = true) (hm : X.mg "max" = none) (ha : DB X W a f) (hgl : Gl X "max" := by rfl) (he : starEach (a :: []) X.env = (false, eval a X.env) :: starEach [] X.env := by rfl) (hpl : (backTo pos (starEach [] X.env)).any (·.1) = false := by rfl) :
    DE X W (.Call (.Name "max" p) [a] [] pos) (d1 maxD1 f) := de_callB (cr_max hc) (cd_max1 _) hm ha hgl (by decide +kernel) (by decide) (by decide) he hpl
/-! two arguments -/
def CallD2 (r : List V → Hp → VK → Prop) (gg : PyData → PyData → R PyData) : Prop := ∀ (F H : Hp) (v u : V) (d e : PyData) (Q : VK) (E : Str → Prop), Same F H → Bq F H v d → Bq F H u e →
  Post (gg d e) (fun z => ∀ v F' H', Grow F H F' H' → Dq F' v z → Q v H') E → r [v, u] H Q
theorem de_callB2 {id : String} {r : List V → Hp → VK → Prop} {gg : PyData → PyData → R PyData} (hc : CallR X (.builtin id) r) (hg : CallD2 r gg) (hm : X.mg x = none) (ha : DB X W a f) (hb : DB X W b g) (hgl : Gl X x := by rfl) (hv : bootBuiltins x = some (.builtin id) := by decide +kernel)
    (hn : x ≠ "__name__" := by decide) (hdb : (x == ("__debug__" : Str)) = false := by decide) (he : starEach (a :: [b]) X.env = (false, eval a X.env) :: starEach [b] X.env := by rfl) (he2 : starEach (b :: []) X.env = (false, eval b X.env) :: starEach [] X.env := by rfl)
    (hpl : (backTo pos (starEach [b] X.env)).any (·.1) = false := by rfl) :
    DE X W (.Call (.Name x p) [a, b] [] pos) (d2 gg f g) := pre_E (pe_callB hc hgl hm hv (pa_cons ha (pa_cons hb pa_nil he2) he) hn hdb he hpl) fun σ H Q ⟨H0, F, env, rl, p⟩ => by
  refine ⟨H0, F, env, rl, (Post.bind p).mono (fun d p1 v F1 H1 g1 b1 => ?_) fun c p1 => p1⟩
  refine ⟨H0, F1, env, rl.grow g1, (Post.bind p1).mono (fun d2 p2 v2 F2 H2 g2 b2 => ?_) fun c p2 F' H' g' => p2 F' H' (g1.trans g')⟩
  exact hg F2 H2 v v2 d d2 Q _ g2.fh (b1.grow g2) b2 (p2.mono (fun z k v F' H' g' q => k v F' H' ((g1.trans g2).trans g') q) fun _ k => k)
def max2D : PyData → PyData → R PyData
  | .int i, .int j => .ok (.int (if j > i then j else i))
  | _, _ => .bad
def min2D : PyData → PyData → R PyData
  | .int i, .int j => .ok (.int (if j < i then j else i))
  | _, _ => .bad
theorem cd_max2 : CallD2 (fun xs H Q => ∃ i j, xs = [.int i, .int j] ∧ Q (.int (if j > i then j else i)) H) max2D := by
  intro F H v u d e Q E fh b c p
  unfold max2D at p
  split at p
  · have := b.int; subst this; have := c.int; subst this; exact ⟨_, _, rfl, p _ F H (.refl fh) (.int _)⟩
  · exact p.elim
theorem cd_min2 : CallD2 (fun xs H Q => ∃ i j, xs = [.int i, .int j] ∧ Q (.int (if j < i then j else i)) H) min2D := by
  intro F H v u d e Q E fh b c p
  unfold min2D at p
  split at p
  · have := b.int; subst this; have := c.int; subst this; exact ⟨_, _, rfl, p _ F H (.refl fh) (.int _)⟩
  · exact p.elim
/-! isinstance -/
def tyName : PyData → Option String
  | .none => some "NoneType"
  | .bool _ => some "bool"
  | .int _ => some "int"
  | .str _ => some "str"
  | .list _ => some "list"
  | .tuple _ => some "tuple"
  | .dict _ => none
theorem Bq.tyx {K : PySem.W.Frag} {F H : Hp} {v : V} {d : PyData} (fh : Same F H) (b : Bq F H v d) : ∃ T, tyName d = some T ∧ TyX K H v (.type T) := by
  cases d with
  | none => have := b.non; subst this; exact ⟨_, rfl, .base .non⟩
  | bool _ => have := b.bool; subst this; exact ⟨_, rfl, .base (.bl _)⟩
  | int _ => have := b.int; subst this; exact ⟨_, rfl, .base (.int _)⟩
  | str _ => have := b.str; subst this; exact ⟨_, rfl, .base (.str _)⟩
  | list _ => obtain ⟨l, vs, rfl, h1, h2⟩ := b.list fh; exact ⟨_, rfl, .base (.lst h1)⟩
  | tuple _ => obtain ⟨l, vs, rfl, h0, h1, h2⟩ := b.tup fh; exact ⟨_, rfl, .base (.tup h1)⟩
  | dict _ => exact b.dict.elim
/-- whether the data is of the built-in type T, one of tuple, str, int, list, bool -/
def isT (T : String) : PyData → Bool
  | .none => false
  | .bool _ => T == "bool" || T == "int"
  | .int _ => T == "int"
  | .str _ => T == "str"
  | .list _ => T == "list"
  | .tuple _ => T == "tuple"
  | .dict _ => false
def tyOk (T : String) : Prop := ∀ d T', tyName d = some T' → kitB T' T = some (isT T d)
theorem tyOk_of {T : String} (h0 : kitB "NoneType" T = some false) (h1 : kitB "bool" T = some (T == "bool" || T == "int")) (h2 : kitB "int" T = some (T == "int")) (h3 : kitB "str" T = some (T == "str")) (h4 : kitB "list" T = some (T == "list")) (h5 : kitB "tuple" T = some (T == "tuple")) : tyOk T := by
  intro d T' e
  cases d <;> cases e
  · exact h0
  · exact h1
  · exact h2
  · exact h3
  · exact h4
  · exact h5
theorem tyOk_tuple : tyOk "tuple" := tyOk_of (by decide +kernel) (by decide +kernel) (by decide +kernel) (by decide +kernel) (by decide +kernel) (by decide +kernel)
theorem tyOk_str : tyOk "str" := tyOk_of (by decide +kernel) (by decide +kernel) (by decide +kernel) (by decide +kernel) (by decide +kernel) (by decide +kernel)
theorem tyOk_int : tyOk "int" := tyOk_of (by decide +kernel) (by decide +kernel) (by decide +kernel) (by decide +kernel) (by decide +kernel) (by decide +kernel)
theorem tyOk_list : tyOk "list" := tyOk_of (by decide +kernel) (by decide +kernel) (by decide +kernel) (by decide +kernel) (by decide +kernel) (by decide +kernel)
theorem tyOk_bool : tyOk "bool" := tyOk_of (by decide +kernel) (by decide +kernel) (by decide +kernel) (by decide +kernel) (by decide +kernel) (by decide +kernel)
def isTD (T : String) (d : PyData) : R PyData := .ok (.bool (isT T d))
theorem de_isinst {n : Str} {T : String} {p3 : Pos} (ok : tyOk T) (hm : X.mg "isinstance" = none) (hmT : X.mg n = none) (hv : bootBuiltins n = some (.type T)) (ha : DB X W a f) (hgl : Gl X "isinstance" := by rfl) (hgT : Gl X n := by rfl)
    (hn : n ≠ "__name__" := by decide) (hdb : (n == ("__debug__" : Str)) = false := by decide) (he : starEach (a :: [.Name n p3]) X.env = (false, eval a X.env) :: starEach [.Name n p3] X.env := by rfl) (hpl : (backTo pos (starEach [.Name n p3] X.env)).any (·.1) = false := by rfl) :
    DE X W (.Call (.Name "isinstance" p) [a, .Name n p3] [] pos) (d1 (isTD T) f) := pre_E (pe_callB call_isi hgl hm PyProof.Rows.boot_isinstance (pa_cons ha (pa_cons (pe_bltn hgT hmT hv (v := .ty T) rfl hn hdb) pa_nil) he) (by decide) (by decide) he hpl) fun σ H Q ⟨H0, F, env, rl, p⟩ => by
  refine ⟨H0, F, env, rl, (Post.bind p).mono (fun d p1 v F1 H1 g1 b1 => ?_) fun c p1 => p1⟩
  obtain ⟨T', e1, e2⟩ := b1.tyx (K := X.K) g1.fh
  exact ⟨v, .ty T, .type T', .type T, isT T d, rfl, .ty T, e2, kit_ty (ok d T' e1), p1 _ F1 H1 g1 (.bl _)⟩
def isTD2 (T U : String) (d : PyData) : R PyData := .ok (.bool (isT T d || isT U d))
theorem de_isinst2 {n m : Str} {T U : String} {p3 p4 p5 : Pos} {kk} (ok : tyOk T) (ok' : tyOk U) (hm : X.mg "isinstance" = none) (hmT : X.mg n = none) (hmU : X.mg m = none) (hv : bootBuiltins n = some (.type T)) (hv' : bootBuiltins m = some (.type U)) (ha : DB X W a f)
    (hgl : Gl X "isinstance" := by rfl) (hgT : Gl X n := by rfl) (hgU : Gl X m := by rfl)
    (hn : n ≠ "__name__" := by decide) (hdb : (n == ("__debug__" : Str)) = false := by decide) (hn' : m ≠ "__name__" := by decide) (hdb' : (m == ("__debug__" : Str)) = false := by decide)
    (he : starEach (a :: [.Tuple [.Name n p3, .Name m p4] kk p5]) X.env = (false, eval a X.env) :: starEach [.Tuple [.Name n p3, .Name m p4] kk p5] X.env := by rfl) (hpl : (backTo pos (starEach [.Tuple [.Name n p3, .Name m p4] kk p5] X.env)).any (·.1) = false := by rfl) :
    DE X W (.Call (.Name "isinstance" p) [a, .Tuple [.Name n p3, .Name m p4] kk p5] [] pos) (d1 (isTD2 T U) f) :=
  pre_E (pe_callB call_isiT hgl hm PyProof.Rows.boot_isinstance (pa_cons ha (pa_cons (pe_tup (pa_cons (pe_bltn hgT hmT hv (v := .ty T) rfl hn hdb) (pa_cons (pe_bltn hgU hmU hv' (v := .ty U) rfl hn' hdb') pa_nil))) pa_nil) he) (by decide) (by decide) he hpl) fun σ H Q ⟨H0, F, env, rl, p⟩ => by
  refine ⟨H0, F, env, rl, (Post.bind p).mono (fun d p1 v F1 H1 g1 b1 => ?_) fun c p1 => p1⟩
  refine ⟨by show 2 ≤ sizeLine; rw [sizeLine_eq]; decide, fun q nq => ?_⟩
  have hs : Same H1 (upd H1 q (.tup [V.ty T, V.ty U])) := same_upd (Same.refl _) nq
  have g2 : Grow F1 H1 F1 (upd H1 q (.tup [V.ty T, V.ty U])) := ⟨Same.refl _, hs, g1.fh.trans hs, fun _ _ z => .inl z⟩
  obtain ⟨T', e1, e2⟩ := (b1.grow g2).tyx (K := X.K) g2.fh
  refine ⟨v, q, [V.ty T, V.ty U], .type T', [.type T, .type U], isT T d || isT U d, rfl, upd_same, .cons (.ty T) (.cons (.ty U) .nil), e2, ?_, p1 _ F1 _ (g1.trans g2) (.bl _)⟩
  have k1 := kit_ty (K := X.K) (ok d T' e1)
  have k2 := kit_ty (K := X.K) (ok' d T' e1)
  refine kitAny_cons k1 (fun z => ?_) fun z => by rw [z]; rfl
  rw [z, Bool.false_or]
  refine kitAny_cons k2 (fun z => ?_) fun z => z
  rw [z]
  exact kitAny_nil
end
end L3

namespace L3
open PySem PySem.Spec PyProof.Rows L2
open Sem (wp)

/-! ### enumerate of a tuple -/
set_option maxHeartbeats 1000000 in
theorem meets_enumerate_new1 {v : Value} {o : Obj} {H : Heap → Prop} (B : Begins v o H) :
    Meets (Builtin.«enumerate.__new__» ⟨[.type "enumerate", v], []⟩) (fun _ R s => H s.heap ∧
      R (.ok (.ret (.ref (s.heap.push o).objs.size))) { s with heap := (s.heap.push o).push { cls := .type "enumerate", data := .fields #[.none, .bool false, .ref s.heap.objs.size, rawInt 0, .none, .none] } }) :=
  .of_wp fun prog w A R s h => by
    obtain ⟨hp, g, d, tk, os⟩ := s; obtain ⟨h1, h⟩ := h
    have hsub := sub_enumerate
    have q1 : ∀ {A' : Around} {E : Value → Shared → Prop} {Q : Value → Shared → Prop}, Q (.ref hp.objs.size) ⟨hp.push o, g, d, tk, os⟩ → wpAny (model prog w) A' (pyIter v) Q E ⟨hp, g, d, tk, os⟩ :=
      fun q => B.iter prog w _ _ ⟨hp, g, d, tk, os⟩ _ h1 q
    wp_walk using q1
    refine wpAny_stack_any fun st => wpAny_pure ?_
    split
    · rename_i c _ _ _ _ _
      cases (c == Value.type "enumerate")
      · wp_walk using q1
        exact ⟨_, rfl, h⟩
      · wp_walk using q1
        exact ⟨_, rfl, h⟩
    · wp_walk using q1
      exact ⟨_, rfl, h⟩
section
variable {prog : Program} {w : World} {A : Around} {E : Value → Shared → Prop} {s : Shared}
theorem call_enumerate_B {v : Value} {o : Obj} {H : Heap → Prop} {Q : Value → Shared → Prop} (B : Begins v o H) (h1 : H s.heap)
    (h : ∀ h', IsEnum h' (s.heap.objs.size + 1) s.heap.objs.size 0 .none → h'.get? s.heap.objs.size = some o → h'.objs.size = s.heap.objs.size + 2 →
      (∀ b o, s.heap.get? b = some o → h'.get? b = some o) → Q (.ref (s.heap.objs.size + 1)) { s with heap := h' }) :
    wpAny (model prog w) A (call (.type "enumerate") [v]) Q E s := by
  refine callType_new F.called_enumerate (by decide) (F.typeCall_enumerate_1 _) (F.newCall_enumerate_1 _) (fun obj => F.args_object_init_2 obj _) F.entry_enumerate_new
    (meets_enumerate_new1 B) ⟨h1, ?_⟩
  have hz : (s.heap.push o).objs.size = s.heap.objs.size + 1 := Heap.size_push ..
  show _ ∧ _
  rw [hz]
  have he : IsEnum ((s.heap.push o).push { cls := .type "enumerate", data := .fields #[.none, .bool false, .ref s.heap.objs.size, rawInt 0, .none, .none] }) (s.heap.objs.size + 1) s.heap.objs.size 0 .none := by
    have := Heap.get?_push_size (s.heap.push o) (o := { cls := .type "enumerate", data := .fields #[.none, .bool false, .ref s.heap.objs.size, rawInt 0, .none, .none] }) rfl
    rw [hz] at this; exact this
  refine ⟨⟨_, he, rfl⟩, h _ he (Heap.get?_push_of_some _ (Heap.get?_push_size _ B.free)) (by rw [Heap.size_push, hz]) fun b o x => Heap.get?_push_of_some _ (Heap.get?_push_of_some _ x)⟩
end
/-- the tuple at a, each item in a new pair -/
def IteT (a : Addr) : It :=
  ⟨fun i H => ∃ (xs : List V) (x : V), H a = some (.tup xs) ∧ xs[i]? = some x, fun i H v H' => ∃ T x, v = .ref T ∧ H T = none ∧ H' = upd H T (.tup [.int (i : Nat), x]) ∧ ∀ xs, H a = some (.tup xs) → xs[i]? = some x, fun i H => ∃ xs : List V, H a = some (.tup xs) ∧ xs.length ≤ i⟩
theorem turn_enumT {P : Program} {w : World} {K : PySem.W.Frag} {elts : List Expr} {kk : Nat} {tpos : Pos} (a e it : Addr) :
    Turn P w K (.Tuple elts kk tpos) (IteT a) [e, it] e (fun i h => (∃ old, IsEnum h e it ((i : Nat) : Int) old) ∧ h.IsTupleIter it a i ∧ e ≠ it) where
  mem := by simp
  obj := fun i h st b hb => by
    obtain ⟨⟨old, he⟩, ⟨o, ho, hc, hd⟩, _⟩ := st
    have e' : b = e ∨ b = it := by simpa using hb
    rcases e' with z | z
    · rw [z]; exact ⟨_, he, fun v q => nomatch q⟩
    · rw [z]; exact ⟨o, ho, fun v q => by rw [hd] at q; cases q⟩
  keep := fun i h h' st k => let ⟨⟨old, he⟩, hi, hne⟩ := st; ⟨⟨old, k e (by simp) _ he⟩, hi.at fun o q => k it (by simp) o q, hne⟩
  item := by
    intro X hP hw hK hc i pins s σ H E I hf st hg
    subst hP hw hK
    obtain ⟨⟨old, he⟩, hit, hne⟩ := st
    obtain ⟨xs, x, hq, hx⟩ := hg
    obtain ⟨its, rv, p, hz⟩ := I.tuple (.inl (.inl hq))
    obtain ⟨u, hu, ru⟩ := rv.get hx
    have hel : e < s.heap.objs.size := Heap.lt_size he
    have hil : it < s.heap.objs.size := by obtain ⟨_, q, _⟩ := hit; exact Heap.lt_size q
    have hai : a ≠ it := fun z => by
      have := (hf it (by simp)).1
      rw [← z, hq] at this; cases this
    have hhd : X.A.in1.handled = none := I.ok.hd hc
    have hae : a ≠ e := fun z => by
      have := (hf e (by simp)).1
      rw [← z, hq] at this; cases this
    have hil' : i < its.toArray.size := by
      rw [List.size_toArray]
      exact (List.getElem?_eq_some_iff.mp hu).1
    refine wpAny_pyNext_enum_itemD (Draws.tuple hhd it a hai its.toArray) he ⟨hit, p⟩ hil' hne (by simp only [List.mem_cons, List.not_mem_nil, or_false, not_or]; exact ⟨hne, fun z => hae z.symm⟩) fun x' h' tk hP ho hs' hT hsz hk => ?_
    have ex' : x' = u := by
      have : its.toArray[i]? = some x' := hP
      rw [List.getElem?_toArray] at this
      rw [hu] at this
      exact (Option.some.inj this).symm
    subst ex'
    refine ⟨_, rfl, wpAny_letOwnedTupleGo_enum (s := { s with heap := h', toks := tk + 1 }) ho fun h'' he' sb => ?_⟩
    have hT2 : h''.get? s.heap.objs.size = some { cls := .type "tuple", data := .seq #[.int i tk, x'] } := (sb.2 _ (Nat.ne_of_gt hel)).trans hT
    have new : ObjOk X.prog X.w (upd H s.heap.objs.size (.tup [.int (i : Nat), x])) h'' s.heap.objs.size (.tup [.int (i : Nat), x]) :=
      ⟨by show 2 ≤ sizeLine; decide, [.int i tk, x'], .cons ⟨_, rfl⟩ (.cons ru .nil), ⟨_, hT2, rfl, _, rfl⟩⟩
    have I1 : Inv X pins σ (upd H s.heap.objs.size (.tup [.int (i : Nat), x])) { s with heap := h'', toks := tk + 1 } :=
      I.turnedNew (ch := [e, it]) (fun b ob hb q => (sb.2 b (fun z => hb (by simp [z]))).trans (hk b ob (fun z => hb (by simp [z])) (fun z => hb (by simp [z])) q)) hf (Nat.le_refl _) new
    refine ⟨.ref s.heap.objs.size, _, I1, rfl, ⟨_, x, rfl, I.hok.fresh (Nat.le_refl _), rfl, fun ys hy => by rw [hq] at hy; cases hy; exact hx⟩, ⟨⟨x', ?_⟩, hs'.1.at fun o q => (sb.2 it (Ne.symm hne)).trans q, hne⟩, fun b hb => ?_⟩
    · have e1 : ((i + 1 : Nat) : Int) = (i : Int) + 1 := by omega
      rw [e1]; exact he'
    · have hb' : b < s.heap.objs.size := by
        have e' : b = e ∨ b = it := by simpa using hb
        rcases e' with z | z
        · rw [z]; exact hel
        · rw [z]; exact hil
      rw [upd_ne (Nat.ne_of_lt hb')]
      exact (hf b hb).1
  done := by
    intro X hP hw hK hc i pins s σ H E I hf st hg
    subst hP hw hK
    obtain ⟨⟨old, he⟩, hit, hne⟩ := st
    obtain ⟨xs, hq, hx⟩ := hg
    obtain ⟨its, rv, p, hz⟩ := I.tuple (.inl (.inl hq))
    obtain ⟨f0, f1, f2, f3, f4, f5⟩ := hf it (by simp)
    have hai : a ≠ it := fun z => by
      rw [← z, hq] at f0; cases f0
    have hhd : X.A.in1.handled = none := I.ok.hd hc
    have hl := rv.length
    by_cases hi : i = its.toArray.size
    · subst hi
      exact wpAny_pyNext_enum_endD (Draws.tuple hhd it a hai its.toArray) he ⟨hit, p⟩ fun h' eb => ⟨rfl, I.turned (t' := s.toks) (fun b o hb q => eb b o hb q) f0 f1 f3 f4 f5⟩
    · -- beyond the end: the iterator's own end is the same
      have hlt : its.toArray.size < i := by rw [List.size_toArray] at hi ⊢; omega
      have hT : s.TypeIs (.ref e) "enumerate" := ⟨_, he, rfl⟩
      unfold pyNext
      refine wpAny_bind (wpAny_attempt (wpAny_callSpecial?_slot (name := Str.ofString "__next__") hT F.slot_enumerate_next
        (wpAny_call_entry F.slot_enumerate_next hT F.entry_enumerate_next ?_ (F.args_enumerate_next_1 _))))
      show wpAny _ _ (field (.ref e) 2 >>= _) _ _ _
      refine wpAny_bind (wpAny_field he rfl (x := .ref it) rfl ?_)
      refine wpAny_bind (wpAny_nextOf_tuple_end hhd hit p (by rw [List.getElem?_toArray]; exact List.getElem?_eq_none (by rw [List.size_toArray] at hlt; omega)) fun h' x he' hx' => ?_)
      obtain ⟨o, ho, hc⟩ := hx'
      refine wpAny_bind (wpAny_isInstance (T := "StopIteration") (b := true) ⟨o, ho, hc⟩ isSubtype_stop ?_)
      exact wpAny_pure ⟨rfl, I.turned (t' := s.toks) (fun b o hb q => he' b o hb q) f0 f1 f3 f4 f5⟩
  self := fun A i s Q E st h => let ⟨⟨_, he⟩, _⟩ := st; wpAny_pyIter_enum he h
end L3

namespace L3
open PySem PySem.Spec PyProof.Rows L2

/-! ### what is walked -/
structure WalkD (J : It) (ds : List PyData) (F1 : Hp) : Prop where
  goes : ∀ i H, i < ds.length → Same F1 H → J.go i H
  stops : ∀ H, Same F1 H → J.stop ds.length H
  yields : ∀ i d F H v H', ds[i]? = some d → Same F1 F → Same F H → J.yld i H v H' → ∃ F', Grow F H F' H' ∧ Dq F' v d
def tDI (K : PySem.W.Frag) (mg : Str → Option Value) (W : WX) (f : Ev → R (List PyData)) : TI := fun σ H Q => ∃ H0 F env, Rl K mg H0 env σ F H ∧
  Post (f env) (fun ds => ∀ J F' H', Grow F H F' H' → WalkD J ds F' → Q J H') (fun c => ∀ F' H', Grow F H F' H' → W (cav mg c) none σ H')
def DI (X : Cx) (W : WX) (tg e : Expr) (f : Ev → R (List PyData)) : Prop := PI X tg e (tDI X.K X.mg W f)
theorem pre_I {X : Cx} {tg e : Expr} {t t' : TI} (h : PI X tg e t) (k : ∀ σ H Q, t' σ H Q → t σ H Q) : PI X tg e t' := ⟨fun pins s σ H Q I q => h.run pins s σ H Q I (k σ H Q q)⟩
theorem walkD_list {K : PySem.W.Frag} {a : Addr} {vs : List V} {ds : List PyData} {F1 : Hp} (h : F1 a = some (.lst vs)) (q : DqA F1 vs ds) : WalkD (Itl K a) ds F1 where
  goes := fun i H hi s => ⟨vs, vs[i]'(by rw [q.length]; exact hi), .inl (.inl (s _ _ h)), by simp⟩
  stops := fun H s => ⟨vs, .inl (.inl (s _ _ h)), by rw [q.length]; exact Nat.le_refl _⟩
  yields := fun i d F H v H' hd s1 s2 ⟨e, y⟩ => by
    subst e
    have y := y vs (.inl (.inl (s2 _ _ (s1 _ _ h))))
    obtain ⟨v', e1, e2⟩ := (q.mono s1).get hd
    rw [y] at e1; cases e1
    exact ⟨F, .refl s2, e2⟩
theorem walkD_tup {K : PySem.W.Frag} {a : Addr} {vs : List V} {ds : List PyData} {F1 : Hp} (h : F1 a = some (.tup vs)) (q : DqA F1 vs ds) : WalkD (Itt K a) ds F1 where
  goes := fun i H hi s => ⟨vs, vs[i]'(by rw [q.length]; exact hi), .inl (.inl (s _ _ h)), by simp⟩
  stops := fun H s => ⟨vs, .inl (.inl (s _ _ h)), by rw [q.length]; exact Nat.le_refl _⟩
  yields := fun i d F H v H' hd s1 s2 ⟨e, y⟩ => by
    subst e
    have y := y vs (.inl (.inl (s2 _ _ (s1 _ _ h))))
    obtain ⟨v', e1, e2⟩ := (q.mono s1).get hd
    rw [y] at e1; cases e1
    exact ⟨F, .refl s2, e2⟩
def signsD (z : Str) : List PyData := z.cps.toList.map fun c => .str ⟨#[c]⟩
theorem walkD_str {z : Str} {F1 : Hp} : WalkD (Its z) (signsD z) F1 where
  goes := fun i H hi s => by
    have hi' : i < z.cps.size := by unfold signsD at hi; rw [List.length_map, Array.length_toList] at hi; exact hi
    exact hi'
  stops := fun H s => by
    show z.cps.size ≤ _
    unfold signsD; rw [List.length_map, Array.length_toList]; exact Nat.le_refl _
  yields := fun i d F H v H' hd s1 s2 y => by
    obtain ⟨e, c, hc, ev⟩ := y
    subst e; subst ev
    unfold signsD at hd
    rw [List.getElem?_map, Array.getElem?_toList, hc] at hd
    cases hd
    exact ⟨F, .refl s2, .str _⟩
def rangeL (lo : Int) (n : Nat) : List PyData := (List.range n).map fun (k : Nat) => .int (lo + (k : Int))
theorem walkD_range {lo : Int} {n : Nat} {F1 : Hp} : WalkD (Itr lo n) (rangeL lo n) F1 where
  goes := fun i H hi s => by
    unfold rangeL at hi; rw [List.length_map, List.length_range] at hi; exact hi
  stops := fun H s => by
    show n ≤ _
    unfold rangeL; rw [List.length_map, List.length_range]; exact Nat.le_refl _
  yields := fun i d F H v H' hd s1 s2 y => by
    obtain ⟨e, ev⟩ := y
    subst e; subst ev
    unfold rangeL at hd
    rw [List.getElem?_map] at hd
    cases h : (List.range n)[i]? with
    | none => rw [h] at hd; cases hd
    | some k =>
      rw [h] at hd
      cases hd
      have hi : i < (List.range n).length := (List.getElem?_eq_some_iff.mp h).1
      rw [List.getElem?_eq_getElem hi, List.getElem_range] at h
      cases h
      exact ⟨F, .refl s2, .int _⟩
def enumL : Int → List PyData → List PyData
  | _, [] => []
  | k, x :: r => .tuple [.int k, x] :: enumL (k + 1) r
theorem enumL_length : ∀ (k : Int) (xs : List PyData), (enumL k xs).length = xs.length
  | _, [] => rfl
  | k, x :: r => by show _ + 1 = _ + 1; rw [enumL_length]
theorem enumL_get : ∀ (k : Int) (xs : List PyData) (i : Nat) (d : PyData), (enumL k xs)[i]? = some d → ∃ x, xs[i]? = some x ∧ d = .tuple [.int (k + (i : Int)), x]
  | _, [], _, _, h => by simp [enumL] at h
  | k, x :: r, 0, d, h => by
    simp [enumL] at h
    exact ⟨x, rfl, by rw [← h]; simp⟩
  | k, x :: r, i + 1, d, h => by
    have h' : (enumL (k + 1) r)[i]? = some d := by simpa [enumL] using h
    obtain ⟨y, e1, e2⟩ := enumL_get (k + 1) r i d h'
    refine ⟨y, by simpa using e1, ?_⟩
    rw [e2, show k + 1 + (i : Int) = k + ((i + 1 : Nat) : Int) by omega]
theorem pair_new {F H : Hp} {T : Addr} {x y : V} {d e : PyData} (fh : Same F H) (nT : H T = none) (hx : Dq F x d) (hy : Dq F y e) : ∃ F', Grow F H F' (upd H T (.tup [x, y])) ∧ Dq F' (.ref T) (.tuple [d, e]) := by
  have g := Grow.new (o := .tup [x, y]) fh nT
  exact ⟨_, g, .tup upd_same (.cons (hx.mono g.f) (.cons (hy.mono g.f) .nil))⟩
theorem walkD_enum {K : PySem.W.Frag} {a : Addr} {vs : List V} {ds : List PyData} {F1 : Hp} (h : F1 a = some (.lst vs)) (q : DqA F1 vs ds) : WalkD (Ite K a) (enumL 0 ds) F1 where
  goes := fun i H hi s => by
    rw [enumL_length] at hi
    exact ⟨vs, vs[i]'(by rw [q.length]; exact hi), .inl (.inl (s _ _ h)), by simp⟩
  stops := fun H s => ⟨vs, .inl (.inl (s _ _ h)), by rw [enumL_length, q.length]; exact Nat.le_refl _⟩
  yields := fun i d F H v H' hd s1 s2 ⟨T, x, e1, nT, e2, y⟩ => by
    subst e1; subst e2
    have y := y vs (.inl (.inl (s2 _ _ (s1 _ _ h))))
    obtain ⟨x', k1, rfl⟩ := enumL_get 0 ds i d hd
    obtain ⟨v', e1, e2⟩ := (q.mono s1).get k1
    rw [y] at e1; cases e1
    rw [show (0 : Int) + (i : Int) = (i : Int) by omega]
    exact pair_new s2 nT (.int _) e2
theorem walkD_enumT {a : Addr} {vs : List V} {ds : List PyData} {F1 : Hp} (h : F1 a = some (.tup vs)) (q : DqA F1 vs ds) : WalkD (IteT a) (enumL 0 ds) F1 where
  goes := fun i H hi s => by
    rw [enumL_length] at hi
    exact ⟨vs, vs[i]'(by rw [q.length]; exact hi), s _ _ h, by simp⟩
  stops := fun H s => ⟨vs, s _ _ h, by rw [enumL_length, q.length]; exact Nat.le_refl _⟩
  yields := fun i d F H v H' hd s1 s2 ⟨T, x, e1, nT, e2, y⟩ => by
    subst e1; subst e2
    have y := y vs (s2 _ _ (s1 _ _ h))
    obtain ⟨x', k1, rfl⟩ := enumL_get 0 ds i d hd
    obtain ⟨v', e1, e2⟩ := (q.mono s1).get k1
    rw [y] at e1; cases e1
    rw [show (0 : Int) + (i : Int) = (i : Int) by omega]
    exact pair_new s2 nT (.int _) e2
def zipL : List PyData → List PyData → List PyData
  | x :: xs, y :: ys => .tuple [x, y] :: zipL xs ys
  | _, _ => []
theorem zipL_length : ∀ xs ys : List PyData, (zipL xs ys).length = min xs.length ys.length
  | [], ys => by simp [zipL]
  | x :: xs, [] => by simp [zipL]
  | x :: xs, y :: ys => by
    show (zipL xs ys).length + 1 = min (xs.length + 1) (ys.length + 1)
    rw [zipL_length]; omega
theorem zipL_get : ∀ (xs ys : List PyData) (i : Nat) (d : PyData), (zipL xs ys)[i]? = some d → ∃ x y, xs[i]? = some x ∧ ys[i]? = some y ∧ d = .tuple [x, y]
  | [], ys, _, _, h => by simp [zipL] at h
  | x :: xs, [], _, _, h => by simp [zipL] at h
  | x :: xs, y :: ys, 0, d, h => by
    simp [zipL] at h
    exact ⟨x, y, rfl, rfl, h.symm⟩
  | x :: xs, y :: ys, i + 1, d, h => by
    have h' : (zipL xs ys)[i]? = some d := by simpa [zipL] using h
    obtain ⟨a, b, e1, e2, e3⟩ := zipL_get xs ys i d h'
    exact ⟨a, b, by simpa using e1, by simpa using e2, e3⟩
theorem walkD_zip {K : PySem.W.Frag} {a b : Addr} {vs ws : List V} {ds es : List PyData} {F1 : Hp} (h : F1 a = some (.lst vs)) (q : DqA F1 vs ds) (h' : F1 b = some (.lst ws)) (q' : DqA F1 ws es) : WalkD (Itz K a b) (zipL ds es) F1 where
  goes := fun i H hi s => by
    rw [zipL_length] at hi
    exact ⟨vs, ws, vs[i]'(by rw [q.length]; omega), ws[i]'(by rw [q'.length]; omega), .inl (.inl (s _ _ h)), .inl (.inl (s _ _ h')), by simp, by simp⟩
  stops := fun H s => ⟨vs, ws, .inl (.inl (s _ _ h)), .inl (.inl (s _ _ h')), by rw [zipL_length, q.length, q'.length]; omega⟩
  yields := fun i d F H v H' hd s1 s2 ⟨T, x, y, e1, nT, e2, y1, y2⟩ => by
    subst e1; subst e2
    have y1 := y1 vs (.inl (.inl (s2 _ _ (s1 _ _ h))))
    have y2 := y2 ws (.inl (.inl (s2 _ _ (s1 _ _ h'))))
    obtain ⟨x', y', k1, k2, rfl⟩ := zipL_get ds es i d hd
    obtain ⟨v', e1, e2⟩ := (q.mono s1).get k1
    obtain ⟨w', e3, e4⟩ := (q'.mono s1).get k2
    rw [y1] at e1; cases e1
    rw [y2] at e3; cases e3
    exact pair_new s2 nT e2 e4
theorem walkD_zipT {K : PySem.W.Frag} {a b : Addr} {vs ws : List V} {ds es : List PyData} {F1 : Hp} (h : F1 a = some (.tup vs)) (q : DqA F1 vs ds) (h' : F1 b = some (.tup ws)) (q' : DqA F1 ws es) : WalkD (RZ.ItzT K a b) (zipL ds es) F1 where
  goes := fun i H hi s => by
    rw [zipL_length] at hi
    exact ⟨vs, ws, vs[i]'(by rw [q.length]; omega), ws[i]'(by rw [q'.length]; omega), .inl (.inl (s _ _ h)), .inl (.inl (s _ _ h')), by simp, by simp⟩
  stops := fun H s => ⟨vs, ws, .inl (.inl (s _ _ h)), .inl (.inl (s _ _ h')), by rw [zipL_length, q.length, q'.length]; omega⟩
  yields := fun i d F H v H' hd s1 s2 ⟨T, x, y, e1, nT, e2, y1, y2⟩ => by
    subst e1; subst e2
    have y1 := y1 vs (.inl (.inl (s2 _ _ (s1 _ _ h))))
    have y2 := y2 ws (.inl (.inl (s2 _ _ (s1 _ _ h'))))
    obtain ⟨x', y', k1, k2, rfl⟩ := zipL_get ds es i d hd
    obtain ⟨v', e1, e2⟩ := (q.mono s1).get k1
    obtain ⟨w', e3, e4⟩ := (q'.mono s1).get k2
    rw [y1] at e1; cases e1
    rw [y2] at e3; cases e3
    exact pair_new s2 nT e2 e4
theorem Same.refl' {F H : Hp} (g : Grow F H F' H') : Same F' H' := g.fh

section
variable {X : Cx} {W : WX} {tg a b e : Expr} {f g : Ev → R PyData} {pos p tpos : Pos} {elts : List Expr} {kk : Nat}
/-- a list, a tuple, a text -/
def iSeq (K : PySem.W.Frag) (tl : TE) : TI := fun σ H Q => tl σ H fun x H1 => (∃ a, x = .ref a ∧ (∃ xs, SqL K H1 a xs) ∧ Q (Itl K a) H1) ∨ (∃ a, x = .ref a ∧ (∃ xs, SqT K H1 a xs) ∧ Q (Itt K a) H1) ∨ ∃ z, x = .str z ∧ Q (Its z) H1
theorem pi_seq {l : Expr} {tl : TE} (hl : PE X l tl) : PI X tg l (iSeq X.K tl) := by
  refine ⟨fun pins s σ H R I h => ?_⟩
  refine thn (hl.run pins s σ H _ I h) fun v s1 ⟨x, H1, I1, r1, q1⟩ => ?_
  rcases q1 with ⟨a, e, ⟨xs, hq⟩, q⟩ | ⟨a, e, ⟨xs, hq⟩, q⟩ | ⟨x, ex, q⟩
  · subst e
    cases r1
    obtain ⟨its, rv, p, hz⟩ := I1.list hq
    refine wpAny_pyIter_list p.isList ?_
    refine ⟨s1.heap.objs.size, [s1.heap.objs.size], _, _, H1, rfl, I1.kept (t' := s1.toks) fun b o e => Heap.get?_push_of_some _ e, turn_list a _, ⟨_, Heap.get?_push_size _ rfl, rfl, rfl⟩, fun b hb => ?_, q⟩
    have e : b = s1.heap.objs.size := by simpa using hb
    subst e
    exact I1.fpOk (Nat.le_refl _) (I1.hok.fresh (Nat.le_refl _))
  · subst e
    cases r1
    obtain ⟨its, rv, p, hz⟩ := I1.tuple hq
    refine wpAny_pyIter_tuple (show s1.heap.IsTuple a its.toArray from p) ?_
    refine ⟨s1.heap.objs.size, [s1.heap.objs.size], _, _, H1, rfl, I1.kept (t' := s1.toks) fun b o e => Heap.get?_push_of_some _ e, turn_tuple a _, ⟨_, Heap.get?_push_size _ rfl, rfl, rfl⟩, fun b hb => ?_, q⟩
    have e : b = s1.heap.objs.size := by simpa using hb
    subst e
    exact I1.fpOk (Nat.le_refl _) (I1.hok.fresh (Nat.le_refl _))
  · subst ex
    obtain ⟨t, rfl⟩ := r1
    cases ha : x.cps.all (· < 128)
    · exact wpAny_pyIter_wide ha (pi_one (tk := s1.toks) I1 _ (turn_str _ x t "str_iterator" (.inr rfl)) ⟨_, Heap.get?_push_size _ rfl, rfl, rfl⟩ q)
    · exact wpAny_pyIter_ascii ha (pi_one (tk := s1.toks) I1 _ (turn_str _ x t "str_ascii_iterator" (.inl rfl)) ⟨_, Heap.get?_push_size _ rfl, rfl, rfl⟩ q)
def itemsD : PyData → R (List PyData)
  | .list xs => .ok xs
  | .tuple xs => .ok xs
  | .str z => .ok (signsD z)
  | _ => .bad
def itemsS : PyData → R (List PyData)
  | .list xs => .ok xs
  | .tuple xs => .ok xs
  | _ => .bad
def iItems1 (f : Ev → R PyData) : Ev → R (List PyData) := fun env => (f env).bind itemsD
theorem di_seq (ha : DE X W a f) : DI X W tg a (iItems1 f) := pre_I (pi_seq ha) fun σ H Q ⟨H0, F, env, rl, p⟩ => by
  refine ⟨H0, F, env, rl, (Post.bind p).mono (fun d p1 v F1 H1 g1 q => ?_) fun c p1 => p1⟩
  cases d <;> first | exact p1.elim | skip
  · cases q
    exact .inr (.inr ⟨_, rfl, p1 _ F1 H1 g1 walkD_str⟩)
  · cases q with
    | lst h q => exact .inl ⟨_, rfl, ⟨_, .inl (.inl (g1.fh _ _ h))⟩, p1 _ F1 H1 g1 (walkD_list h q)⟩
  · cases q with
    | tup h q => exact .inr (.inl ⟨_, rfl, ⟨_, .inl (.inl (g1.fh _ _ h))⟩, p1 _ F1 H1 g1 (walkD_tup h q)⟩)
def iRange1 (f : Ev → R PyData) : Ev → R (List PyData) := fun env => (f env).bind fun x => (asInt x).bind fun n => if n.natAbs ≤ BIG then .ok (rangeL 0 n.toNat) else .bad
theorem di_range1 (hm : X.mg "range" = none) (ha : DE X W a f) (hg : Gl X "range" := by rfl) (hs : starEach [a] X.env = [(false, eval a X.env)] := by rfl) : DI X W tg (.Call (.Name "range" p) [a] [] pos) (iRange1 f) := pre_I (pi_range1 hg hm (pa_cons ha pa_nil (by rw [hs]; rfl)) hs) fun σ H Q ⟨H0, F, env, rl, p⟩ => by
  refine ⟨H0, F, env, rl, (Post.bind p).mono (fun d p1 v F1 H1 g1 q => ?_) fun c p1 => p1⟩
  cases d <;> first | exact p1.elim | skip
  rename_i n
  cases q
  have p2 : Post (if n.natAbs ≤ BIG then R.ok (rangeL 0 n.toNat) else .bad) _ _ := p1
  split at p2
  · rename_i hh
    unfold BIG at hh
    exact ⟨n, rfl, by omega, by omega, p2 _ F1 H1 g1 walkD_range⟩
  · exact p2.elim
def iRange2 (f g : Ev → R PyData) : Ev → R (List PyData) := fun env => (f env).bind fun x => (g env).bind fun y => (asInt x).bind fun m => (asInt y).bind fun n => if m.natAbs ≤ BIG ∧ n.natAbs ≤ BIG then .ok (rangeL m (n - m).toNat) else .bad
theorem di_range2 (hm : X.mg "range" = none) (ha : DE X W a f) (hb : DE X W b g) (hg : Gl X "range" := by rfl) (hs : starEach [a, b] X.env = [(false, eval a X.env), (false, eval b X.env)] := by rfl) (hs2 : starEach [b] X.env = [(false, eval b X.env)] := by rfl) :
    DI X W tg (.Call (.Name "range" p) [a, b] [] pos) (iRange2 f g) := pre_I (pi_range2 hg hm (pa_cons ha (pa_cons hb pa_nil (by rw [hs2]; rfl)) (by rw [hs, hs2])) hs hs2) fun σ H Q ⟨H0, F, env, rl, p⟩ => by
  refine ⟨H0, F, env, rl, (Post.bind p).mono (fun d p1 v F1 H1 g1 q => ?_) fun c p1 => p1⟩
  refine ⟨H0, F1, env, rl.grow g1, (Post.bind p1).mono (fun d2 p2 v2 F2 H2 g2 q2 => ?_) fun c p2 F' H' g' => p2 F' H' (g1.trans g')⟩
  cases d <;> first | exact p2.elim | skip
  rename_i m
  cases d2 <;> first | exact p2.elim | skip
  rename_i n
  cases q
  cases q2
  have p3 : Post (if m.natAbs ≤ BIG ∧ n.natAbs ≤ BIG then R.ok (rangeL m (n - m).toNat) else .bad) _ _ := p2
  split at p3
  · rename_i hh
    unfold BIG at hh
    exact ⟨m, n, rfl, ⟨by omega, by omega, by omega, by omega⟩, p3 _ F2 H2 (g1.trans g2) walkD_range⟩
  · exact p3.elim
/-- enumerate(list or tuple) -/
def iEnumA (K : PySem.W.Frag) (ta : TA) : TI := fun σ H Q => ta σ H fun vs H1 => (∃ a xs, vs = [.ref a] ∧ SqL K H1 a xs ∧ Q (Ite K a) H1) ∨ ∃ a xs, vs = [.ref a] ∧ H1 a = some (.tup xs) ∧ Q (IteT a) H1
theorem pi_enumA {ta : TA} (hg : Gl X "enumerate") (hm : X.mg "enumerate" = none) (ha : PA X [e] ta) (hs : starEach [e] X.env = [(false, eval e X.env)] := by rfl) :
    PI X (.Tuple elts kk tpos) (.Call (.Name "enumerate" p) [e] [] pos) (iEnumA X.K ta) := by
  refine ⟨fun pins s σ H R I h => ?_⟩
  refine Call_ (ld_blt I hg hm boot_enumerate (PyProof.Rows.callWith_type1 (thn (ha.run pos pins s σ H _ I h) fun us s1 ⟨vs, H1, I1, r1, q1⟩ => ?_) hs rfl))
  rcases q1 with ⟨a, xs, ex, hq, q⟩ | ⟨a, xs, ex, hq, q⟩
  · subst ex
    cases r1 with
    | cons r rr =>
      cases rr
      cases r
      obtain ⟨its, rv, p', hz⟩ := I1.list hq
      refine call_enumerate_list p'.isList fun h' he hit hsz hk => wpAny_pyIter_enum he ?_
      have I2 : Inv X pins σ H1 { s1 with heap := h' } := I1.kept (t' := s1.toks) hk
      refine ⟨s1.heap.objs.size + 1, [s1.heap.objs.size + 1, s1.heap.objs.size], _, _, H1, rfl, I2, turn_enum a (s1.heap.objs.size + 1) s1.heap.objs.size, ⟨⟨.none, he⟩, hit, Nat.succ_ne_self _⟩, fun b hb => ?_, q⟩
      have e' : b = s1.heap.objs.size + 1 ∨ b = s1.heap.objs.size := by simpa using hb
      have hle : s1.heap.objs.size ≤ b := by
        rcases e' with z | z
        · rw [z]; exact Nat.le_add_right _ _
        · rw [z]; exact Nat.le_refl _
      exact I1.fpOk hle (I1.hok.fresh hle)
  · subst ex
    cases r1 with
    | cons r rr =>
      cases rr
      cases r
      obtain ⟨its, rv, p', hz⟩ := I1.tuple (.inl (.inl hq))
      refine call_enumerate_B (begins_tuple a its.toArray) p' fun h' he hit hsz hk => wpAny_pyIter_enum he ?_
      have I2 : Inv X pins σ H1 { s1 with heap := h' } := I1.kept (t' := s1.toks) hk
      refine ⟨s1.heap.objs.size + 1, [s1.heap.objs.size + 1, s1.heap.objs.size], _, _, H1, rfl, I2, turn_enumT a (s1.heap.objs.size + 1) s1.heap.objs.size, ⟨⟨.none, he⟩, ⟨_, hit, rfl, rfl⟩, Nat.succ_ne_self _⟩, fun b hb => ?_, q⟩
      have e' : b = s1.heap.objs.size + 1 ∨ b = s1.heap.objs.size := by simpa using hb
      have hle : s1.heap.objs.size ≤ b := by
        rcases e' with z | z
        · rw [z]; exact Nat.le_add_right _ _
        · rw [z]; exact Nat.le_refl _
      exact I1.fpOk hle (I1.hok.fresh hle)
def iEnumD (f : Ev → R PyData) : Ev → R (List PyData) := fun env => (f env).bind fun x => (itemsS x).bind fun xs => .ok (enumL 0 xs)
theorem di_enum (hm : X.mg "enumerate" = none) (ha : DE X W a f) (hg : Gl X "enumerate" := by rfl) (hs : starEach [a] X.env = [(false, eval a X.env)] := by rfl) : DI X W (.Tuple elts kk tpos) (.Call (.Name "enumerate" p) [a] [] pos) (iEnumD f) :=
  pre_I (pi_enumA hg hm (pa_cons ha pa_nil (by rw [hs]; rfl)) hs) fun σ H Q ⟨H0, F, env, rl, p⟩ => by
  refine ⟨H0, F, env, rl, (Post.bind p).mono (fun d p1 v F1 H1 g1 q => ?_) fun c p1 => p1⟩
  cases d <;> first | exact p1.elim | skip
  · cases q with
    | lst h q => exact .inl ⟨_, _, rfl, .inl (.inl (g1.fh _ _ h)), p1 _ F1 H1 g1 (walkD_enum h q)⟩
  · cases q with
    | tup h q => exact .inr ⟨_, _, rfl, g1.fh _ _ h, p1 _ F1 H1 g1 (walkD_enumT h q)⟩
def iZipD (f g : Ev → R PyData) : Ev → R (List PyData) := fun env => (f env).bind fun x => (g env).bind fun y => match x, y with
  | .list xs, .list ys => .ok (zipL xs ys)
  | .tuple xs, .tuple ys => .ok (zipL xs ys)
  | _, _ => .bad
theorem di_zip (hm : X.mg "zip" = none) (ha : DE X W a f) (hb : DE X W b g) (hg : Gl X "zip" := by rfl) (hs : starEach [a, b] X.env = (false, eval a X.env) :: starEach [b] X.env := by rfl) (hs2 : starEach [b] X.env = (false, eval b X.env) :: starEach [] X.env := by rfl)
    (hpl : (backTo pos (starEach [b] X.env)).any (·.1) = false := by rfl) : DI X W (.Tuple elts kk tpos) (.Call (.Name "zip" p) [a, b] [] pos) (iZipD f g) :=
  pre_I (RZ.pi_zipA hg hm (pa_cons ha (pa_cons hb pa_nil hs2) hs) hs hpl) fun σ H Q ⟨H0, F, env, rl, p⟩ => by
  refine ⟨H0, F, env, rl, (Post.bind p).mono (fun d p1 v F1 H1 g1 q => ?_) fun c p1 => p1⟩
  refine ⟨H0, F1, env, rl.grow g1, (Post.bind p1).mono (fun d2 p2 v2 F2 H2 g2 q2 => ?_) fun c p2 F' H' g' => p2 F' H' (g1.trans g')⟩
  have q := q.mono g2.f
  cases d <;> first | exact p2.elim | skip
  · cases d2 <;> first | exact p2.elim | skip
    cases q with
    | lst h q =>
      cases q2 with
      | lst h2 q2 => exact ⟨_, _, _, _, rfl, .inl ⟨.inl (.inl (g2.fh _ _ h)), .inl (.inl (g2.fh _ _ h2)), p2 _ F2 H2 (g1.trans g2) (walkD_zip h q h2 q2)⟩⟩
  · cases d2 <;> first | exact p2.elim | skip
    cases q with
    | tup h q =>
      cases q2 with
      | tup h2 q2 => exact ⟨_, _, _, _, rfl, .inr ⟨.inl (.inl (g2.fh _ _ h)), .inl (.inl (g2.fh _ _ h2)), p2 _ F2 H2 (g1.trans g2) (walkD_zipT h q h2 q2)⟩⟩
end

/-! ### targets -/
theorem wipe_set {σ : L2.St} {i : Nat} {w : Option V} : ∀ {vs : List Nat}, i ∈ vs → wipe (σ.set i w) vs = wipe σ vs
  | v :: vs, h => by
    show (wipe (σ.set i w) vs).set v none = (wipe σ vs).set v none
    by_cases hm : i ∈ vs
    · rw [wipe_set hm]
    · have e : i = v := by rcases List.mem_cons.mp h with e | e; exact e; exact absurd e hm
      subst e
      have key : ∀ (τ : L2.St) (us : List Nat), i ∉ us → wipe (τ.set i w) us = (wipe τ us).set i w := by
        intro τ us
        induction us with
        | nil => intro _; rfl
        | cons u us ih =>
          intro hn
          have h1 : i ≠ u := fun e => hn (by rw [e]; exact List.mem_cons_self)
          show (wipe (τ.set i w) us).set u none = ((wipe τ us).set u none).set i w
          rw [ih fun m => hn (List.mem_cons_of_mem _ m), List.set_comm _ _ h1]
      rw [key σ vs hm, List.set_set]
def tDG (K : PySem.W.Frag) (mg : Mg) (vs : List Nat) (g : PyData → Ev → R Ev) : TG := fun v σ H Q => ∃ H0 F env d, Rl K mg H0 env σ F H ∧ Dq F v d ∧ Post (g d env) (fun env' => ∀ σ', Rl K mg H0 env' σ' F H → wipe σ' vs = wipe σ vs → Q σ' H) fun _ => False
def tDGs (K : PySem.W.Frag) (mg : Mg) (vs : List Nat) (g : List PyData → Ev → R Ev) : TGs := fun v σ H Q => ∃ H0 F env ds, Rl K mg H0 env σ F H ∧ DqA F v ds ∧ Post (g ds env) (fun env' => ∀ σ', Rl K mg H0 env' σ' F H → wipe σ' vs = wipe σ vs → Q σ' H) fun _ => False
def DG (X : Cx) (vs : List Nat) (tg : Expr) (g : PyData → Ev → R Ev) : Prop := PG X tg (tDG X.K X.mg vs g)
def DGs (X : Cx) (vs : List Nat) (tgs : List Expr) (g : List PyData → Ev → R Ev) : Prop := PGs X tgs (tDGs X.K X.mg vs g)
theorem pre_G {X : Cx} {e : Expr} {t t' : TG} (h : PG X e t) (k : ∀ v σ H Q, t' v σ H Q → t v σ H Q) : PG X e t' := ⟨fun pins s σ H v u Q I r q => h.run pins s σ H v u Q I r (k v σ H Q q)⟩
section
variable {X : Cx} {vs : List Nat} {e : Expr} {es : List Expr} {pos : Pos}
def gN (i : Nat) : PyData → Ev → R Ev := fun d env => .ok (env.set i (.val d))
theorem dg_name (i : Nat) {x : Str} (hN : X.N.Nodup) (hv : i ∈ vs := by decide) (hi : X.N[i]? = some x := by rfl) (hx : Loc X.env.scope x := by first | exact Or.inl rfl | exact Or.inr rfl) (hf : X.fn x = true ∨ X.env.scope.names.lookup x = some .local := by first | exact .inl rfl | exact .inr rfl) : DG X vs (.Name x pos) (gN i) :=
  pre_G (pg_name hN hi hx hf) fun v σ H Q ⟨H0, F, env, d, rl, q, p⟩ => p _ (rl.set i (s := .val d) ⟨v, rfl, q⟩ trivial) (wipe_set hv)
def gsN : List PyData → Ev → R Ev := fun ds env => match ds with
  | [] => .ok env
  | _ => .bad
def gsC (g : PyData → Ev → R Ev) (h : List PyData → Ev → R Ev) : List PyData → Ev → R Ev := fun ds env => match ds with
  | d :: r => (g d env).bind fun e => h r e
  | [] => .bad
theorem pre_Gs {X : Cx} {e : List Expr} {t t' : TGs} (h : PGs X e t) (k : ∀ v σ H Q, t' v σ H Q → t v σ H Q) : PGs X e t' := by
  obtain ⟨run⟩ := h
  exact ⟨by intros; exact run _ _ _ _ _ _ _ (by assumption) (by assumption) (k _ _ _ _ (by assumption))⟩
theorem dgs_nil : DGs X vs [] gsN := pre_Gs pgs_nil fun v σ H Q ⟨H0, F, env, ds, rl, q, p⟩ => by
  cases q with
  | nil => exact ⟨rfl, p _ rl rfl⟩
  | cons _ _ => exact p.elim
theorem dgs_cons {g : PyData → Ev → R Ev} {h : List PyData → Ev → R Ev} (h1 : DG X vs e g) (h2 : DGs X vs es h) (hs : (assignEach (e :: es) X.env).map (·.2) = assign e X.env :: (assignEach es X.env).map (·.2) := by rfl) : DGs X vs (e :: es) (gsC g h) := pre_Gs (pgs_cons h1 h2 hs) fun v σ H Q ⟨H0, F, env, ds, rl, q, p⟩ => by
  cases q with
  | nil => exact p.elim
  | cons q1 q2 =>
    refine ⟨_, _, rfl, H0, F, env, _, rl, q1, (Post.bind p).mono (fun env' p1 σ' rl' w1 => ?_) fun _ z => z⟩
    exact ⟨H0, F, env', _, rl', q2, p1.mono (fun env'' k σ'' rl'' w2 => k σ'' rl'' (w2.trans w1)) fun _ z => z⟩
def gT (n : Nat) (g : List PyData → Ev → R Ev) : PyData → Ev → R Ev := fun d env => match d with
  | .tuple ds => if ds.length = n then g ds env else .bad
  | _ => .bad
theorem dg_tup {k : Nat} {g : List PyData → Ev → R Ev} (n : Nat) (hc : X.calm = true) (h : DGs X vs es g) (hn : (assignEach es X.env).length = n := by rfl) (hst : (assignEach es X.env).findIdx? (·.1) = none := by rfl) : DG X vs (.Tuple es k pos) (gT n g) :=
  pre_G (pg_tup hc h hn hst) fun v σ H Q ⟨H0, F, env, d, rl, q, p⟩ => by
  cases d <;> first | exact p.elim | skip
  rename_i ds
  cases q with
  | tup h q =>
    have p2 : Post (if ds.length = n then g ds env else .bad) _ _ := p
    split at p2
    · rename_i hl
      exact ⟨_, _, rfl, .inl (.inl (rl.fh _ _ h)), by rw [q.length]; exact hl, H0, F, env, ds, rl, q, p2⟩
    · exact p2.elim
end
end L3

namespace L3
open PySem PySem.Spec PyProof.Rows L2

/-! ### comprehensions -/
abbrev W0 : WX := fun _ _ _ _ => False
def lcR (g : PyData → Ev → R Ev) (t : Ev → R Bool) (f : Ev → R PyData) (env : Ev) : List PyData → R (List PyData)
  | [] => .ok []
  | x :: xs => (g x env).bind fun e => (t e).bind fun b => if b = true then (f e).bind fun d => (lcR g t f env xs).bind fun r => .ok (d :: r) else lcR g t f env xs
def dLc (it : Ev → R (List PyData)) (g : PyData → Ev → R Ev) (t : Ev → R Bool) (f : Ev → R PyData) (vs : List Nat) : Ev → R PyData := fun env => (it env).bind fun xs =>
  if xs.length ≤ BIG then (lcR g t f (wipeE env vs) xs).bind fun r => .ok (.list r) else .bad
/-- the tests of a comprehension -/
def DTs (X : Cx) (W : WX) (ifs : List Expr) (t : Ev → R Bool) : Prop := PTs X ifs (tDT X.K X.mg W t)
def tTrue : Ev → R Bool := fun _ => .ok true
section
variable {X : Cx} {W : WX} {a b e : Expr} {t : Ev → R Bool}
theorem dts_nil : DTs X W [] tTrue := ⟨fun pins s σ H Q I ⟨H0, F, env, rl, p⟩ => pts_nil.run pins s σ H Q I (p F H (.refl rl.fh))⟩
theorem dts_one (h : DT X W a t) : DTs X W [a] t := pts_one h
end
theorem wipe_wipe {σ : L2.St} {vs : List Nat} : ∀ us : List Nat, (∀ u ∈ us, u ∈ vs) → wipe (wipe σ us) vs = wipe σ vs
  | [], _ => rfl
  | u :: us, h => by
    show wipe ((wipe σ us).set u none) vs = _
    rw [wipe_set (h u List.mem_cons_self)]
    exact wipe_wipe us fun v hv => h v (List.mem_cons_of_mem _ hv)
/-- what is left of the list to be made: what stands behind it, noexc -/
theorem lc_post {K : PySem.W.Frag} {g : PyData → Ev → R Ev} {t : Ev → R Bool} {f : Ev → R PyData} {own : List Nat} {mg : Str → Option Value}
    {J : It} {xs : List PyData} {env : Ev} {σ : L2.St} {H0 : G0} {F1 H1 : Hp} {D : Addr} {Q : VK} {E : Str → Prop} (hx : xs.length ≤ BIG) (rl : Rl K mg H0 env σ F1 H1) (w : WalkD J xs F1) (nD : H1 D = none)
    (p : Post ((lcR g t f (wipeE env own) xs).bind fun r => .ok (PyData.list r)) (fun d => ∀ v F' H', Grow F1 H1 F' H' → Dq F' v d → Q v H') E)
    (hE : ∀ c, ¬ E c) :
    ∃ W : Nat → Nat → Hp → Prop, (∃ m, W 0 m (upd H1 D (.lst []))) ∧ ∀ i m H, W i m H →
      (J.stop i H ∧ Q (.ref D) H) ∨ (J.go i H ∧ ∃ Nx : Hp → Prop, (∀ H', Nx H' → ∃ m', m' < m ∧ W (i + 1) m' H') ∧ ∀ x H', J.yld i H x H' → tDG K mg own g x (wipe σ own) H' fun σ2 H2 => wipe σ2 own = wipe σ own ∧ tDT K mg W0 t σ2 H2 fun b H3 =>
        if b = true then tD K mg W0 f σ2 H3 fun y H4 => ∃ acc, H4 D = some (.lst acc) ∧ acc.length < sizeLine ∧ Nx (upd H4 D (.lst (acc ++ [y]))) else Nx H3) := by
  let Pv : Nat → Hp → Prop := fun i H => ∃ F accV accD, Grow F1 H1 F H ∧ F D = none ∧ H D = some (.lst accV) ∧ DqA F accV accD ∧ accD.length ≤ i ∧
    Post (lcR g t f (wipeE env own) (xs.drop i)) (fun r => ∀ v F' H', Grow F1 H1 F' H' → Dq F' v (.list (accD ++ r)) → Q v H') E
  refine ⟨fun i m H => m = xs.length - i ∧ i ≤ xs.length ∧ Pv i H, ⟨xs.length, by simp, Nat.zero_le _, F1, [], [], ?_, ?_, upd_same, .nil, Nat.zero_le _, ?_⟩, ?_⟩
  · have hu : Same H1 (upd H1 D (.lst [])) := same_upd (Same.refl _) nD
    exact ⟨Same.refl _, hu, rl.fh.trans hu, fun _ _ z => .inl z⟩
  · exact rl.fh.free nD
  · rw [List.drop_zero]
    refine (Post.bind p).mono (fun r k => ?_) fun _ z => z
    exact k
  · rintro i m H ⟨rfl, hi, F, accV, accD, gr, fD, hD, qa, hal, pp⟩
    by_cases hlt : i < xs.length
    · refine .inr ⟨w.goes i H hlt (gr.f.trans gr.fh), Pv (i + 1), fun H' p' => ⟨xs.length - (i + 1), by omega, rfl, hlt, p'⟩, fun x H' y => ?_⟩
      have hxi : xs[i]? = some xs[i] := List.getElem?_eq_getElem hlt
      obtain ⟨F', g', q'⟩ := w.yields i xs[i] F H x H' hxi gr.f gr.fh y
      rw [List.drop_eq_getElem_cons hlt] at pp
      have g1' := gr.trans g'
      refine ⟨H0, F', wipeE env own, xs[i], (rl.wipe own).grow g1', q', (Post.bind pp).mono (fun e p1 σ2 rl2 w2 => ⟨w2.trans (wipe_wipe own fun _ h => h), ?_⟩) fun c k => (hE c k).elim⟩
      refine ⟨H0, F', e, rl2, (Post.bind p1).mono (fun b p2 F3 H3 g3 => ?_) fun c k => (hE c k).elim⟩
      have nF : ∀ {F4 H4 : Hp}, Grow F H F4 H4 → F4 D = none := fun {F4 H4} g4 => by
        cases z : F4 D with
        | none => rfl
        | some o =>
          rcases g4.nw D o z with k | k
          · rw [fD] at k; cases k
          · rw [hD] at k; cases k
      cases b with
      | false =>
        have g3' := g'.trans g3
        exact iteF ⟨F3, accV, accD, gr.trans g3', nF g3', g3'.h _ _ hD, qa.mono g3'.f, by omega, p2⟩
      | true =>
        refine iteT ⟨H0, F3, e, rl2.grow g3, (Post.bind (show Post ((f e).bind fun d => (lcR g t f (wipeE env own) (xs.drop (i + 1))).bind fun r => R.ok (d :: r)) _ _ from p2)).mono (fun d p3 v F4 H4 g4 q4 => ?_) fun c k => (hE c k).elim⟩
        have g4' := (g'.trans g3).trans g4
        have gg := gr.trans g4'
        refine ⟨accV, g4'.h _ _ hD, by rw [qa.length]; exact big_lt (by omega), F4, accV ++ [v], accD ++ [d], ⟨gg.f, fun b o z => ?_, fun b o z => ?_, gg.nw⟩, nF g4', upd_same, (qa.mono g4'.f).append (.cons q4 .nil), by rw [List.length_append, List.length_singleton]; omega, ?_⟩
        · rw [upd_ne (ne_of_none z nD)]; exact gg.h b o z
        · rw [upd_ne (ne_of_none z (nF g4'))]; exact gg.fh b o z
        · refine (Post.bind p3).mono (fun r k => ?_) fun _ z => z
          rw [List.append_assoc]
          exact k
    · have e : i = xs.length := by omega
      subst e
      refine .inl ⟨w.stops H (gr.f.trans gr.fh), ?_⟩
      rw [List.drop_length] at pp
      have pp : ∀ v F' H', Grow F1 H1 F' H' → Dq F' v (.list (accD ++ [])) → Q v H' := pp
      rw [List.append_nil] at pp
      have hu : Same F (upd F D (.lst accV)) := fun b o z => by
        rw [upd_ne (ne_of_none z fD)]; exact z
      refine pp _ (upd F D (.lst accV)) H ⟨gr.f.trans hu, gr.h, fun b o z => ?_, fun b o z => ?_⟩ (.lst upd_same (qa.mono hu))
      · by_cases hb : b = D
        · subst hb; rw [upd_same] at z; rw [hD]; exact z
        · rw [upd_ne hb] at z; exact gr.fh b o z
      · by_cases hb : b = D
        · subst hb; exact .inr nD
        · rw [upd_ne hb] at z; exact gr.nw b o z

section
variable {X : Cx} {W : WX} {elt tg iter : Expr} {ifs : List Expr} {scope : Scope} {own : List (Str × Nat)} {pos spos : Pos} {it : Ev → R (List PyData)} {g : PyData → Ev → R Ev} {t : Ev → R Bool} {f : Ev → R PyData}
/-- what is in a comprehension raises nothing -/
def noexc {α : Type} (r : R α) : R α := match r with
  | .ok a => .ok a
  | _ => .bad
theorem noexc_post {α : Type} {r : R α} {k : α → Prop} {e : Str → Prop} (p : Post (noexc r) k e) : Post r k fun _ => False := by
  cases r <;> exact p
def dLcx (it : Ev → R (List PyData)) (g : PyData → Ev → R Ev) (t : Ev → R Bool) (f : Ev → R PyData) (vs : List Nat) : Ev → R PyData := fun env => (it env).bind fun xs =>
  if xs.length ≤ BIG then noexc ((lcR g t f (wipeE env vs) xs).bind fun r => .ok (.list r)) else .bad
theorem lc_run {σ : L2.St} {H : Hp} {Q : VK} (p : tD X.K X.mg W (dLcx it g t f (own.map (·.2))) σ H Q) : tLc (tDI X.K X.mg W it) (tDG X.K X.mg (own.map (·.2)) g) (tDT X.K X.mg W0 t) (tD X.K X.mg W0 f) (own.map (·.2)) σ H Q := by
  obtain ⟨H0, F, env, rl, p⟩ := p
  refine ⟨H0, F, env, rl, (Post.bind p).mono (fun xs p1 J F1 H1 g1 w D nD => ?_) fun c p1 => p1⟩
  have p2 : Post (if xs.length ≤ BIG then noexc ((lcR g t f (wipeE env (own.map (·.2))) xs).bind fun r => R.ok (PyData.list r)) else .bad) _ _ := p1
  split at p2
  · rename_i hh
    exact lc_post hh (rl.grow g1) w nD ((noexc_post p2).mono (fun d k v F' H' g' q => k v F' H' (g1.trans g') q) fun _ z => z) fun _ z => z
  · exact p2.elim
theorem de_lc (hc : X.calm = true) (hN : X.N.Nodup) (hi : DI X W tg iter it) (ok : BlkOk X.N X.env.scope scope own)
    (hg : ∀ (s : Shared) (H : Hp) (C : Addr) (cl : List (Str × Addr)) (fp : List Addr), DG (X.blk s H scope (compEnvC scope cl C X.env) fp) (own.map (·.2)) tg g) (ht : ∀ (s : Shared) (H : Hp) (C : Addr) (cl : List (Str × Addr)) (fp : List Addr), DTs (X.blk s H scope (compEnvC scope cl C X.env) fp) W0 ifs t)
    (he : ∀ (s : Shared) (H : Hp) (C : Addr) (cl : List (Str × Addr)) (fp : List Addr), DE (X.blk s H scope (compEnvC scope cl C X.env) fp) W0 elt f) (hs : ∀ x, foldedSetIterable iter X.env x = pure x := by intro _; rfl) :
    DE X W (.ListComp elt [⟨tg, iter, ifs, 0⟩] scope pos) (dLcx it g t f (own.map (·.2))) := pre_E (pe_lc (g := tDG X.K X.mg (own.map (fun (x : Str × Nat) => x.2)) g) (tt := tDT X.K X.mg W0 t) (te := tD X.K X.mg W0 f) hc hN hi ok hg ht he hs) fun σ H Q p => lc_run p
end
end L3

namespace L3
open PySem PySem.Spec PyProof.Rows L2

/-! ### statements -/
inductive Out where
  | nx (e : Ev)
  | rt (d : PyData)
  | bk (e : Ev)
  | ct (e : Ev)
  | rb (b : Big) (d : PyData)
  | ex (b : Big) (c : Str)
def OutP (K : PySem.W.Frag) (mg : Mg) (W : WX) (F0 : Hp) (H0 : G0) (D : Ends) : Out → Prop
  | .nx e => ∀ σ' F' H', Grow F0 H0 F' H' → Rl K mg H0 e σ' F' H' → D.nx σ' H'
  | .rt d => ∀ v F' H', Grow F0 H0 F' H' → Dq F' v d → D.rt v H'
  | .bk e => ∀ σ' F' H', Grow F0 H0 F' H' → Rl K mg H0 e σ' F' H' → D.bk σ' H'
  | .ct e => ∀ σ' F' H', Grow F0 H0 F' H' → Rl K mg H0 e σ' F' H' → D.ct σ' H'
  | .rb b d => ∀ v F' H', Grow F0 H0 F' H' → Dq F' v d → SlotR K mg H0 F' H' (.slf b) (some (.ref H0.sa)) → D.rt v H'
  | .ex b c => ∀ σ F' H', Grow F0 H0 F' H' → σ[0]? = some (some (.ref H0.sa)) → SlotR K mg H0 F' H' (.slf b) (some (.ref H0.sa)) → W (cav mg c) none σ H'
def ExcP (mg : Str → Option Value) (W : WX) (F0 : Hp) (H0 : G0) (c : Str) : Prop := ∀ σ F' H', Grow F0 H0 F' H' → W (cav mg c) none σ H'
def tDS (K : PySem.W.Frag) (mg : Str → Option Value) (W : WX) (g : Ev → R Out) : TS := fun D σ H => ∃ (F0 : Hp) (H0 : G0) (F : Hp) (env : Ev), Grow F0 H0 F H ∧ Rl K mg H0 env σ F H ∧ Post (g env) (OutP K mg W F0 H0 D) (ExcP mg W F0 H0)
def DS (X : Cx) (W : WX) (st : Stmt) (g : Ev → R Out) : Prop := PS X st (tDS X.K X.mg W g)
def DSs (X : Cx) (W : WX) (sts : List Stmt) (g : Ev → R Out) : Prop := PSs X sts (tDS X.K X.mg W g)
theorem pre_S {X : Cx} {st : Stmt} {t t' : TS} (h : PS X st t) (k : ∀ D σ H, t' D σ H → t D σ H) : PS X st t' := ⟨fun pins s σ H D I q => h.run pins s σ H D I (k D σ H q)⟩
theorem pre_Ss {X : Cx} {sts : List Stmt} {t t' : TS} (h : PSs X sts t) (k : ∀ D σ H, t' D σ H → t D σ H) : PSs X sts t' := ⟨fun pins s σ H D I q => h.run pins s σ H D I (k D σ H q)⟩
section
variable {F0 F1 H1 F H F' H' : Hp} {H0 : G0}
theorem Grow.rebase (a : Grow F0 H0 F1 H1) (s : Same F1 F) (b : Grow F0 H0 F H) : Grow F1 H0 F H :=
  ⟨s, b.h, b.fh, fun c o q => by
    rcases b.nw c o q with z | z
    · exact .inl (a.f c o z)
    · exact .inr z⟩
theorem Grow.base (a : Grow F0 H0 F1 H1) (b : Grow F1 H0 F' H') : Grow F0 H0 F' H' :=
  ⟨a.f.trans b.f, b.h, b.fh, fun c o q => by
    rcases b.nw c o q with z | z
    · exact a.nw c o z
    · exact .inr z⟩
/-- the entry's heap stays behind while the state goes on -/
theorem Grow.on (a : Grow F0 H0 F H) (b : Grow F H F' H') : Grow F0 H0 F' H' := a.trans b
end

section
variable {X : Cx} {W : WX} {a b c e : Expr} {f : Ev → R PyData} {t : Ev → R Bool} {g h : Ev → R Out} {st : Stmt} {sts rest : List Stmt} {pos pos' p p2 apos cpos spos : Pos} {x : Str}
/-! blocks -/
def sNil : Ev → R Out := fun env => .ok (.nx env)
def seqO (o : Out) (h : Ev → R Out) : R Out := match o with
  | .nx e => h e
  | o => .ok o
def sSeq (g h : Ev → R Out) : Ev → R Out := fun env => (g env).bind fun o => seqO o h
theorem dss_nil : DSs X W [] sNil := pre_Ss pss_nil fun D σ H ⟨F0, H0, F, env, gr, rl, p⟩ => p σ F H gr rl
theorem dss_one (h1 : DS X W st g) : DSs X W [st] g := pss_one h1
theorem dss_cons (h1 : DS X W st g) (h2 : DSs X W rest h) : DSs X W (st :: rest) (sSeq g h) := pre_Ss (pss_cons h1 h2) fun D σ H ⟨F0, H0, F, env, gr, rl, p⟩ => by
  refine ⟨F0, H0, F, env, gr, rl, (Post.bind p).mono (fun o k => ?_) fun _ k => k⟩
  cases o with
  | nx e => exact fun σ' F' H' g' r' => ⟨F0, H0, F', e, g', r', k⟩
  | rt d => exact k
  | bk e => exact k
  | ct e => exact k
  | rb b d => exact k
  | ex b c => exact k
theorem ds_pass : DS X W (.Pass pos) sNil := pre_S ps_pass fun D σ H ⟨F0, H0, F, env, gr, rl, p⟩ => p σ F H gr rl
theorem ds_break : DS X W (.Break pos) (fun env => .ok (.bk env)) := pre_S ps_break fun D σ H ⟨F0, H0, F, env, gr, rl, p⟩ => p σ F H gr rl
theorem ds_continue : DS X W (.Continue pos) (fun env => .ok (.ct env)) := pre_S ps_continue fun D σ H ⟨F0, H0, F, env, gr, rl, p⟩ => p σ F H gr rl
/-! an own list frozen -/
def freezeE (i : Nat) (env : Ev) : R Ev := match sget env i with
  | .own xs => .ok (env.set i (.val (.list xs)))
  | .val d => .ok env
  | _ => .bad
theorem Rl.freeze {K : PySem.W.Frag} {mg : Mg} {F0 F H : Hp} {H0 : G0} {env : Ev} {σ : L2.St} (gr : Grow F0 H0 F H) (rl : Rl K mg H0 env σ F H) {i : Nat} {xs : List PyData} (hi : sget env i = .own xs) :
    ∃ F', Same F F' ∧ Grow F0 H0 F' H ∧ Rl K mg H0 (env.set i (.val (.list xs))) σ F' H ∧ ∃ v, σ[i]? = some (some v) ∧ Dq F' v (.list xs) := by
  obtain ⟨w, e1, e2, a, vs, rfl, h0, fa, ha, q⟩ := rl.at_ hi (by intro z; cases z)
  have hs : Same F (upd F a (.lst vs)) := fun b o z => by rw [upd_ne (ne_of_none z fa)]; exact z
  have fh' : Same (upd F a (.lst vs)) H := fun b o z => by
    by_cases hb : b = a
    · subst hb; rw [upd_same] at z; rw [ha]; exact z
    · rw [upd_ne hb] at z; exact rl.fh b o z
  have dq : Dq (upd F a (.lst vs)) (.ref a) (.list xs) := .lst upd_same (q.mono hs)
  have hilt : i < env.length := (List.getElem?_eq_some_iff.mp e1).1
  have key := rl.put i (s := .val (.list xs)) (w := some (.ref a)) hs fh' (fun x o e _ => e) (fun j t u x hj h1 h2 z => ?_) ⟨_, rfl, dq⟩ fun j t u x _ _ _ _ z => z
  · have e6 : σ.set i (some (.ref a)) = σ := by
      refine List.ext_getElem? fun j => ?_
      by_cases hj : i = j
      · subst hj
        rw [List.getElem?_set_self (List.getElem?_eq_some_iff.mp e2).1, e2]
      · rw [List.getElem?_set_ne hj]
    rw [e6] at key
    refine ⟨upd F a (.lst vs), hs, ⟨gr.f.trans hs, gr.h, fh', fun b o z => ?_⟩, key, _, e2, dq⟩
    by_cases hb : b = a
    · subst hb; exact .inr h0
    · rw [upd_ne hb] at z; exact gr.nw b o z
  · have nb : x ≠ a := fun e => by
      subst e
      exact rl.ap i j _ t _ u x (Ne.symm hj) e1 h1 e2 h2 rfl z
    rw [upd_ne nb]
    exact ((rl.sl j t u h1 h2).part z).2.1
def sFreeze (i : Nat) (g : Ev → R Out) : Ev → R Out := fun env => (freezeE i env).bind g
theorem freeze_run {D : Ends} {σ : L2.St} {H : Hp} {i : Nat} (p : tDS X.K X.mg W (sFreeze i g) D σ H) : tDS X.K X.mg W g D σ H := by
  obtain ⟨F0, H0, F, env, gr, rl, p⟩ := p
  have p := Post.bind p
  unfold freezeE at p
  cases e : sget env i with
  | own xs =>
    rw [e] at p
    obtain ⟨F', _, gr', rl', _⟩ := rl.freeze gr e
    exact ⟨F0, H0, F', _, gr', rl', p⟩
  | val d =>
    rw [e] at p
    exact ⟨F0, H0, F, env, gr, rl, p⟩
  | emp => rw [e] at p; exact p.elim
  | scr _ => rw [e] at p; exact p.elim
  | exc _ => rw [e] at p; exact p.elim
  | big _ => rw [e] at p; exact p.elim
  | slf _ => rw [e] at p; exact p.elim
  | bor _ => rw [e] at p; exact p.elim
theorem dss_freeze (i : Nat) (h1 : DSs X W sts g) : DSs X W sts (sFreeze i g) := pre_Ss h1 fun D σ H p => freeze_run p
/-! assignments -/
def sAsg (f : Ev → R PyData) (g : PyData → Ev → R Ev) : Ev → R Out := fun env => (f env).bind fun d => (g d env).bind fun e => .ok (.nx e)
theorem excOn {mg : Str → Option Value} {W : WX} {F0 F H : Hp} {H0 : G0} {σ : L2.St} (gr : Grow F0 H0 F H) {c : Str} (k : ExcP mg W F0 H0 c) : ∀ F' H', Grow F H F' H' → W (cav mg c) none σ H' := fun F' H' g' => k σ F' H' (gr.on g')
/-- a statement whose value is computed, then stored by g -/
theorem asg_run {vs : List Nat} {gg : PyData → Ev → R Ev} (hx : ∀ (d : PyData) (env : Ev) c, gg d env ≠ .exc c) {D : Ends} {σ : L2.St} {H : Hp} (p : tDS X.K X.mg W (sAsg f gg) D σ H) : tAsg (tD X.K X.mg W f) (tDG X.K X.mg vs gg) D σ H := by
  obtain ⟨F0, H0, F, env, gr, rl, p⟩ := p
  refine ⟨H0, F, env, rl, (Post.bind p).mono (fun d p1 v F1 H1 g1 q => ?_) fun c k => excOn gr k⟩
  refine ⟨H0, F1, env, d, rl.grow g1, q, ?_⟩
  have p1 := Post.bind p1
  cases z : gg d env with
  | ok env' =>
    rw [z] at p1
    exact fun σ' rl' _ => p1 σ' F1 H1 (gr.on g1) rl'
  | exc c => exact absurd z (hx d env c)
  | bad => rw [z] at p1; exact p1
theorem gN_noexc (i : Nat) : ∀ (d : PyData) (env : Ev) c, gN i d env ≠ .exc c := fun _ _ _ z => by cases z
theorem ds_set (i : Nat) (hN : X.N.Nodup) (he : DE X W e f) (hi : X.N[i]? = some x := by rfl) (hx : L2.Loc X.env.scope x := by first | exact Or.inl rfl | exact Or.inr rfl) (hs : swapsWith e (some (.Name x pos')) pos.line X.env = pure false := by rfl)
    (hf : X.fn x = true ∨ X.env.scope.names.lookup x = some .local := by first | exact .inl rfl | exact .inr rfl) : DS X W (.Assign [.Name x pos'] e pos) (sAsg f (gN i)) := by
  refine pre_S (ps_set hN hi hx he hs hf) fun D σ H p => ?_
  obtain ⟨H0, F, env, rl, k⟩ := asg_run (vs := [i]) (gN_noexc i) p
  refine ⟨H0, F, env, rl, k.mono (fun d k v F' H' g' q => ?_) fun _ k => k⟩
  obtain ⟨H0', F2, env2, d2, rl2, q2, k2⟩ := k v F' H' g' q
  exact k2 _ (rl2.set i (s := .val d2) ⟨v, rfl, q2⟩ trivial) (wipe_set (List.mem_singleton.mpr rfl))
theorem ds_asg {vs : List Nat} {tg : Expr} {gg : PyData → Ev → R Ev} (hx : ∀ (d : PyData) (env : Ev) c, gg d env ≠ .exc c) (he : DE X W e f) (hg : DG X vs tg gg) (hs : swapsWithSole [tg] e pos.line X.env = pure false := by rfl) (hw : swappedStores [tg] e X.env = pure none := by rfl)
    (h1 : (assignEach [tg] X.env).map (·.2) = [assign tg X.env] := by rfl) : DS X W (.Assign [tg] e pos) (sAsg f gg) := pre_S (ps_asg he hg hs hw h1) fun D σ H p => asg_run hx p
/-- a, b = e1, e2 -/
def sPar (i j : Nat) (l : Ev → R (List PyData)) : Ev → R Out := fun env => (l env).bind fun ds => match ds with
  | [d, e] => .ok (.nx ((env.set i (.val d)).set j (.val e)))
  | _ => .bad
theorem ds_par {y : Str} {px py pt pt2 : Pos} {kt k2} {l : Ev → R (List PyData)} (i j : Nat) (hc : X.calm = true) (hN : X.N.Nodup) (hij : i ≠ j := by decide) (ha : DL X W [a, b] l) (hi : X.N[i]? = some x := by rfl) (hj : X.N[j]? = some y := by rfl)
    (hx : X.env.scope.names.lookup x = some .local := by rfl) (hy : X.env.scope.names.lookup y = some .local := by rfl)
    (hw : swappedStores [.Tuple [.Name x px, .Name y py] kt pt] (.Tuple [a, b] k2 pt2) X.env = pure (some [x, y]) := by rfl) (hst : starEach [a, b] X.env = (false, eval a X.env) :: starEach [b] X.env := by rfl) : DS X W (.Assign [.Tuple [.Name x px, .Name y py] kt pt] (.Tuple [a, b] k2 pt2) pos) (sPar i j l) :=
  pre_S (ps_par hc hN hi hj hij hx hy ha hw) fun D σ H ⟨F0, H0, F, env, gr, rl, p⟩ => by
  refine ⟨H0, F, env, rl, (Post.bind p).mono (fun ds p1 vs F1 H1 g1 q => ?_) fun c k => excOn gr k⟩
  match ds, p1, q with
  | [], p1, _ => exact p1.elim
  | [_], p1, _ => exact p1.elim
  | _ :: _ :: _ :: _, p1, _ => exact p1.elim
  | [d, e], p1, .cons q1 (.cons q2 .nil) =>
    refine ⟨_, _, rfl, p1 _ F1 H1 (gr.on g1) ?_⟩
    have rl1 := rl.grow g1
    exact (rl1.set i (s := .val d) ⟨_, rfl, q1⟩ trivial).set j (s := .val e) ⟨_, rfl, q2⟩ trivial
/-- x = [..], the list then the frame's own -/
def sOwnL (i : Nat) (l : Ev → R (List PyData)) : Ev → R Out := fun env => (l env).bind fun ds => if ds.length ≤ BIG then .ok (.nx (env.set i (.own ds))) else .bad
theorem ds_ownL {es : List Expr} {l : Ev → R (List PyData)} (i : Nat) (hN : X.N.Nodup) (he : DL X W es l) (hi : X.N[i]? = some x := by rfl) (hx : L2.Loc X.env.scope x := by first | exact Or.inl rfl | exact Or.inr rfl) (hs : swapsWith (.List es p) (some (.Name x pos')) pos.line X.env = pure false := by rfl)
    (hf : X.fn x = true ∨ X.env.scope.names.lookup x = some .local := by first | exact .inl rfl | exact .inr rfl) : DS X W (.Assign [.Name x pos'] (.List es p) pos) (sOwnL i l) := pre_S (ps_set hN hi hx (pe_lst he) hs hf) fun D σ H ⟨F0, H0, F, env, gr, rl, p⟩ => by
  refine ⟨H0, F, env, rl, (Post.bind p).mono (fun ds p1 vs F1 H1 g1 q => ?_) fun c k => excOn gr k⟩
  split at p1
  · rename_i hh
    refine ⟨by rw [q.length]; exact big_le hh, fun l nl => ?_⟩
    have rl1 := rl.grow g1
    have gg := gr.on g1
    refine p1 _ F1 _ ⟨gg.f, fun b o z => ?_, fun b o z => ?_, gg.nw⟩ (rl1.set_own i (gg.h.free nl) nl q)
    · rw [upd_ne (ne_of_none (gg.h b o z) nl)]; exact gg.h b o z
    · rw [upd_ne (ne_of_none (gg.fh b o z) nl)]; exact gg.fh b o z
  · exact p1.elim
/-- y = [.. for ..] -/
theorem ds_setLc {tg iter elt : Expr} {ifs : List Expr} {scope : Scope} {own : List (Str × Nat)} {it : Ev → R (List PyData)} {gg : PyData → Ev → R Ev} {f : Ev → R PyData} (i : Nat) (hc : X.calm = true) (hN : X.N.Nodup) (hi : DI X W tg iter it) (ok : BlkOk X.N X.env.scope scope own)
    (hg : ∀ (s : Shared) (H : Hp) (C : Addr) (cl : List (Str × Addr)) (fp : List Addr), DG (X.blk s H scope (compEnvC scope cl C X.env) fp) (own.map (·.2)) tg gg) (ht : ∀ (s : Shared) (H : Hp) (C : Addr) (cl : List (Str × Addr)) (fp : List Addr), DTs (X.blk s H scope (compEnvC scope cl C X.env) fp) W0 ifs t)
    (he : ∀ (s : Shared) (H : Hp) (C : Addr) (cl : List (Str × Addr)) (fp : List Addr), DE (X.blk s H scope (compEnvC scope cl C X.env) fp) W0 elt f)
    (hsw : swapsWith (.ListComp elt [⟨tg, iter, ifs, 0⟩] scope pos) (some (.Name x pos')) spos.line X.env = pure true) (hy : X.N[i]? = some x := by rfl) (hyl : X.env.scope.names.lookup x = some .local := by rfl) (hs : ∀ x, foldedSetIterable iter X.env x = pure x := by intro _; rfl) :
    DS X W (.Assign [.Name x pos'] (.ListComp elt [⟨tg, iter, ifs, 0⟩] scope pos) spos) (sAsg (dLcx it gg t f (own.map (·.2))) (gN i)) :=
  pre_S (ps_setLc (g := tDG X.K X.mg (own.map (fun (x : Str × Nat) => x.2)) gg) (tt := tDT X.K X.mg W0 t) (te := tD X.K X.mg W0 f) hc hN hy hyl hsw hi ok hg ht he hs) fun D σ H p => by
  refine lc_run (W := W) ?_
  obtain ⟨H0, F, env, rl, k⟩ := asg_run (vs := [i]) (gN_noexc i) p
  refine ⟨H0, F, env, rl, k.mono (fun d k v F' H' g' q => ?_) fun _ k => k⟩
  obtain ⟨H0', F2, env2, d2, rl2, q2, k2⟩ := k v F' H' g' q
  exact k2 _ (rl2.set i (s := .val d2) ⟨v, rfl, q2⟩ trivial) (wipe_set (List.mem_singleton.mpr rfl))
/-! append, extend -/
def sAppend (i : Nat) (f : Ev → R PyData) : Ev → R Out := fun env => match sget env i with
  | .own xs => (f env).bind fun d => if xs.length ≤ BIG then .ok (.nx (env.set i (.own (xs ++ [d])))) else .bad
  | _ => .bad
theorem own_upd {K : PySem.W.Frag} {mg : Mg} {F0 F H : Hp} {H0 : G0} {env : Ev} {σ : L2.St} (gr : Grow F0 H0 F H) (rl : Rl K mg H0 env σ F H) {i : Nat} {a : Addr} {vs : List V} {xs ys : List PyData} (hi : sget env i = .own xs) (e2 : σ[i]? = some (some (.ref a))) (h0 : H0 a = none) (fa : F a = none) (q : DqA F vs ys) :
    Grow F0 H0 F (upd H a (.lst vs)) ∧ Rl K mg H0 (env.set i (.own ys)) σ F (upd H a (.lst vs)) :=
  ⟨⟨gr.f, fun b o z => by rw [upd_ne (ne_of_none z h0)]; exact gr.h b o z, fun b o z => by rw [upd_ne (ne_of_none z fa)]; exact gr.fh b o z, gr.nw⟩, rl.upd_own hi e2 q⟩
theorem ds_append (i : Nat) (he : DE X W e f) (hN : X.N[i]? = some x := by rfl) (hv : Vis X.env.scope x := by first | exact Or.inl rfl | exact Or.inr (Or.inl rfl) | exact Or.inr (Or.inr rfl)) (hd : (x == ("__debug__" : Str)) = false := by decide) (hcd : (x == ("__classdict__" : Str)) = false := by decide)
    (hse : starEach (e :: []) X.env = (false, eval e X.env) :: starEach [] X.env := by rfl)
    (hbase : attributeBase (.Name x p) "append" X.env (eval (.Name x p) X.env) = eval (.Name x p) X.env := by rfl)
    (hfew : ((backTo cpos (starEach (e :: []) X.env)).all (fun x => !x.1) && (backToKw cpos (keywordEach [] X.env)).all (fun x => x.1.isSome)
      && decide ((e :: []).length + ([] : List Keyword).length + (if ([] : List Keyword).isEmpty then 0 else 1) < 30)) = true := by rfl)
    (hline : (apos.endLine == cpos.line) = true := by rfl) (hplain : (backTo cpos (starEach [] X.env)).any (·.1) = false := by rfl)
    (hs : swapsWith (.Call (.Attribute (.Name x p) "append" apos) [e] [] cpos) none pos.line X.env = pure false := by rfl) :
    DS X W (.Expr (.Call (.Attribute (.Name x p) "append" apos) [e] [] cpos) pos) (sAppend i f) :=
  pre_S (ps_expr (pe_bm PySem.F.plainAttrs_list PySem.F.slot_list_append PySem.F.type_list_append mt_append (pe_var hN hv hd hcd) (pa_cons he pa_nil hse) hbase hfew hline hse hplain) hs) fun D σ H ⟨F0, H0, F, env, gr, rl, p⟩ => by
  unfold sAppend at p
  cases z : sget env i with
  | own xs =>
    rw [z] at p
    obtain ⟨l, vs, e1, h0, fl, hl, q⟩ := rl.own z
    refine ⟨_, e1, .inl ⟨rfl, vs, .inl (.inl hl)⟩, H0, F, env, rl, (Post.bind p).mono (fun d p1 v F1 H1 g1 qd => ?_) fun c k => excOn gr k⟩
    split at p1
    · rename_i hh
      have gg := gr.on g1
      have fl1 : F1 l = none := by
        cases k : F1 l with
        | none => rfl
        | some o =>
          rcases g1.nw l o k with k | k
          · rw [fl] at k; cases k
          · rw [hl] at k; cases k
      obtain ⟨a1, a2⟩ := own_upd gg (rl.grow g1) z e1 h0 fl1 ((q.mono g1.f).append (.cons qd .nil))
      exact ⟨l, vs, v, rfl, rfl, g1.h _ _ hl, by rw [q.length]; exact big_lt hh, p1 σ F1 _ a1 a2⟩
    · exact p1.elim
  | val _ => rw [z] at p; exact p.elim
  | emp => rw [z] at p; exact p.elim
  | scr _ => rw [z] at p; exact p.elim
  | exc _ => rw [z] at p; exact p.elim
  | big _ => rw [z] at p; exact p.elim
  | slf _ => rw [z] at p; exact p.elim
  | bor _ => rw [z] at p; exact p.elim
def sExtend (i : Nat) (f : Ev → R PyData) : Ev → R Out := fun env => match sget env i with
  | .own xs => (f env).bind fun d => match d with
    | .list ys => if xs.length + ys.length ≤ BIG then .ok (.nx (env.set i (.own (xs ++ ys)))) else .bad
    | _ => .bad
  | _ => .bad
theorem ds_extend (i : Nat) (he : DE X W e f) (hN : X.N[i]? = some x := by rfl) (hv : Vis X.env.scope x := by first | exact Or.inl rfl | exact Or.inr (Or.inl rfl) | exact Or.inr (Or.inr rfl)) (hd : (x == ("__debug__" : Str)) = false := by decide) (hcd : (x == ("__classdict__" : Str)) = false := by decide)
    (hse : starEach (e :: []) X.env = (false, eval e X.env) :: starEach [] X.env := by rfl)
    (hbase : attributeBase (.Name x p) "extend" X.env (eval (.Name x p) X.env) = eval (.Name x p) X.env := by rfl)
    (hfew : ((backTo cpos (starEach (e :: []) X.env)).all (fun x => !x.1) && (backToKw cpos (keywordEach [] X.env)).all (fun x => x.1.isSome)
      && decide ((e :: []).length + ([] : List Keyword).length + (if ([] : List Keyword).isEmpty then 0 else 1) < 30)) = true := by rfl)
    (hline : (apos.endLine == cpos.line) = true := by rfl) (hplain : (backTo cpos (starEach [] X.env)).any (·.1) = false := by rfl)
    (hs : swapsWith (.Call (.Attribute (.Name x p) "extend" apos) [e] [] cpos) none pos.line X.env = pure false := by rfl) :
    DS X W (.Expr (.Call (.Attribute (.Name x p) "extend" apos) [e] [] cpos) pos) (sExtend i f) :=
  pre_S (ps_expr (pe_bm PySem.F.plainAttrs_list PySem.F.slot_list_extend PySem.F.type_list_extend mt_extend (pe_var hN hv hd hcd) (pa_cons he pa_nil hse) hbase hfew hline hse hplain) hs) fun D σ H ⟨F0, H0, F, env, gr, rl, p⟩ => by
  unfold sExtend at p
  cases z : sget env i with
  | own xs =>
    rw [z] at p
    obtain ⟨l, vs, e1, h0, fl, hl, q⟩ := rl.own z
    refine ⟨_, e1, .inl ⟨rfl, vs, .inl (.inl hl)⟩, H0, F, env, rl, (Post.bind p).mono (fun d p1 v F1 H1 g1 qd => ?_) fun c k => excOn gr k⟩
    cases d <;> first | exact p1.elim | skip
    rename_i ys
    have p1 : Post (if xs.length + ys.length ≤ BIG then R.ok (Out.nx (env.set i (.own (xs ++ ys)))) else .bad) _ _ := p1
    split at p1
    · rename_i hh
      have gg := gr.on g1
      have fl1 : F1 l = none := by
        cases k : F1 l with
        | none => rfl
        | some o =>
          rcases g1.nw l o k with k | k
          · rw [fl] at k; cases k
          · rw [hl] at k; cases k
      cases qd with
      | lst hb qd =>
        obtain ⟨a1, a2⟩ := own_upd gg (rl.grow g1) z e1 h0 fl1 ((q.mono g1.f).append qd)
        exact ⟨l, _, vs, _, rfl, rfl, g1.h _ _ hl, g1.fh _ _ hb, by rw [q.length, qd.length]; exact big_le hh, p1 σ F1 _ a1 a2⟩
    · exact p1.elim
  | val _ => rw [z] at p; exact p.elim
  | emp => rw [z] at p; exact p.elim
  | scr _ => rw [z] at p; exact p.elim
  | exc _ => rw [z] at p; exact p.elim
  | big _ => rw [z] at p; exact p.elim
  | slf _ => rw [z] at p; exact p.elim
  | bor _ => rw [z] at p; exact p.elim
/-! return, if, raise -/
def sRet (f : Ev → R PyData) : Ev → R Out := fun env => (f env).bind fun d => .ok (.rt d)
theorem ds_ret (he : DE X W e f) : DS X W (.Return (some e) pos) (sRet f) := pre_S (ps_ret he) fun D σ H ⟨F0, H0, F, env, gr, rl, p⟩ =>
  ⟨H0, F, env, rl, (Post.bind p).mono (fun d p1 v F1 H1 g1 q => p1 v F1 H1 (gr.on g1) q) fun c k => excOn gr k⟩
def sRetOwn (i : Nat) : Ev → R Out := fun env => match sget env i with
  | .own xs => .ok (.rt (.list xs))
  | _ => .bad
theorem ds_retOwn (i : Nat) (hN : X.N[i]? = some x := by rfl) (hv : Vis X.env.scope x := by first | exact Or.inl rfl | exact Or.inr (Or.inl rfl) | exact Or.inr (Or.inr rfl)) (hd : (x == ("__debug__" : Str)) = false := by decide) (hcd : (x == ("__classdict__" : Str)) = false := by decide) :
    DS X W (.Return (some (.Name x p)) pos) (sRetOwn i) := pre_S (ps_ret (pe_var hN hv hd hcd)) fun D σ H ⟨F0, H0, F, env, gr, rl, p⟩ => by
  unfold sRetOwn at p
  cases z : sget env i with
  | own xs =>
    rw [z] at p
    obtain ⟨F', _, gr', rl', v, e1, q⟩ := rl.freeze gr z
    exact ⟨v, e1, p v F' H gr' q⟩
  | val _ => rw [z] at p; exact p.elim
  | emp => rw [z] at p; exact p.elim
  | scr _ => rw [z] at p; exact p.elim
  | exc _ => rw [z] at p; exact p.elim
  | big _ => rw [z] at p; exact p.elim
  | slf _ => rw [z] at p; exact p.elim
  | bor _ => rw [z] at p; exact p.elim
def sRetN : Ev → R Out := fun _ => .ok (.rt .none)
theorem ds_retN : DS X W (.Return none pos) sRetN := pre_S ps_retN fun D σ H ⟨F0, H0, F, env, gr, rl, p⟩ => p _ F H gr .non
def sIf (t : Ev → R Bool) (g h : Ev → R Out) : Ev → R Out := fun env => (t env).bind fun b => if b = true then g env else h env
theorem ds_if {ss ss' : List Stmt} (hc : DT X W c t) (ha : DSs X W ss g) (hb : DSs X W ss' h) : DS X W (.If c ss ss' pos) (sIf t g h) := pre_S (ps_if hc ha hb) fun D σ H ⟨F0, H0, F, env, gr, rl, p⟩ => by
  refine ⟨H0, F, env, rl, (Post.bind p).mono (fun k p1 F1 H1 g1 => ?_) fun c k => excOn gr k⟩
  cases k with
  | true => exact iteT ⟨F0, H0, F1, env, gr.on g1, rl.grow g1, p1⟩
  | false => exact iteF ⟨F0, H0, F1, env, gr.on g1, rl.grow g1, p1⟩
def sDrop (f : Ev → R PyData) : Ev → R Out := fun env => (f env).bind fun _ => .ok (.nx env)
theorem ds_expr (he : DE X W e f) (hs : swapsWith e none pos.line X.env = pure false := by rfl) : DS X W (.Expr e pos) (sDrop f) := pre_S (ps_expr he hs) fun D σ H ⟨F0, H0, F, env, gr, rl, p⟩ =>
  ⟨H0, F, env, rl, (Post.bind p).mono (fun d p1 v F1 H1 g1 q => p1 σ F1 H1 (gr.on g1) (rl.grow g1)) fun c k => excOn gr k⟩
theorem ds_doc {z : Str} {j} : DS X W (.Expr (.Constant (.str z) j pos) pos') sNil := pre_S ps_doc fun D σ H ⟨F0, H0, F, env, gr, rl, p⟩ => p σ F H gr rl
/-! loops -/
def loopO (o : Out) (k : Ev → R Out) : R Out := match o with
  | .nx e => k e
  | .ct e => k e
  | .bk e => .ok (.nx e)
  | .rt d => .ok (.rt d)
  | .rb b d => .ok (.rb b d)
  | .ex b c => .ok (.ex b c)
def whileR (t : Ev → R Bool) (g : Ev → R Out) : Nat → Ev → R Out
  | 0, _ => .bad
  | n + 1, env => (t env).bind fun c => if c = true then (g env).bind fun o => loopO o (whileR t g n) else .ok (.nx env)
def sWhile (n : Nat) (t : Ev → R Bool) (g : Ev → R Out) : Ev → R Out := whileR t g n
theorem ds_while {ss : List Stmt} (n : Nat) (hp : PassesOwn (model X.prog X.w) X.A X.env X.xe) (hc : DT X W c t) (hb : DSs X W ss g) : DS X W (.While c ss [] pos) (sWhile n t g) := pre_S (ps_while hp hc hb) fun D σ H ⟨F0, H0, F, env, gr, rl, p⟩ => by
  refine ⟨fun m σ H => ∃ F env, Grow F0 H0 F H ∧ Rl X.K X.mg H0 env σ F H ∧ Post (whileR t g m env) (OutP X.K X.mg W F0 H0 D) (ExcP X.mg W F0 H0), ⟨n, F, env, gr, rl, p⟩, fun m σ H ⟨F, env, gr, rl, p⟩ => ?_⟩
  cases m with
  | zero => exact p.elim
  | succ m =>
    refine ⟨H0, F, env, rl, (Post.bind p).mono (fun k p1 F1 H1 g1 => ?_) fun c k => excOn gr k⟩
    have gg := gr.on g1
    cases k with
    | false => exact iteF (p1 σ F1 H1 gg (rl.grow g1))
    | true =>
      refine iteT ⟨fun σ' H' => ∃ F env, Grow F0 H0 F H' ∧ Rl X.K X.mg H0 env σ' F H' ∧ Post (whileR t g m env) (OutP X.K X.mg W F0 H0 D) (ExcP X.mg W F0 H0), fun σ' H' q => ⟨m, Nat.lt_succ_self _, q⟩, F0, H0, F1, env, gg, rl.grow g1, ?_⟩
      refine (Post.bind (show Post ((g env).bind fun o => loopO o (whileR t g m)) _ _ from p1)).mono (fun o k => ?_) fun _ k => k
      cases o with
      | nx e => exact fun σ' F' H' g' r' => ⟨F', e, g', r', k⟩
      | ct e => exact fun σ' F' H' g' r' => ⟨F', e, g', r', k⟩
      | bk e => exact k
      | rt d => exact k
      | rb b d => exact k
      | ex b c => exact k
def forR (gg : PyData → Ev → R Ev) (g : Ev → R Out) : List PyData → Ev → R Out
  | [], env => .ok (.nx env)
  | x :: xs, env => (gg x env).bind fun e => (g e).bind fun o => loopO o (forR gg g xs)
def sFor (it : Ev → R (List PyData)) (gg : PyData → Ev → R Ev) (g : Ev → R Out) : Ev → R Out := fun env => (it env).bind fun xs => forR gg g xs env
theorem ds_for {ss : List Stmt} {tg iter : Expr} {vs : List Nat} {it : Ev → R (List PyData)} {gg : PyData → Ev → R Ev} (hx : ∀ (d : PyData) (env : Ev) c, gg d env ≠ .exc c) (hp : PassesOwn (model X.prog X.w) X.A X.env X.xe) (hc : X.calm = true) (hi : DI X W tg iter it) (hg : DG X vs tg gg) (hb : DSs X W ss g)
    (hs : ∀ x, foldedSetIterable iter X.env x = pure x := by intro _; rfl) : DS X W (.For tg iter ss [] pos) (sFor it gg g) := pre_S (ps_for hp hc hi hg hb hs) fun D σ H ⟨F0, H0, F, env, gr, rl, p⟩ => by
  refine ⟨H0, F, env, rl, (Post.bind p).mono (fun xs p1 J F1 H1 g1 w => ?_) fun c k => excOn gr k⟩
  have gr1 := gr.on g1
  refine ⟨fun i m σ H => m = xs.length - i ∧ i ≤ xs.length ∧ ∃ F env, Grow F0 H0 F H ∧ Same F1 F ∧ Rl X.K X.mg H0 env σ F H ∧ Post (forR gg g (xs.drop i) env) (OutP X.K X.mg W F0 H0 D) (ExcP X.mg W F0 H0), ⟨xs.length, by simp, Nat.zero_le _, F1, env, gr1, Same.refl _, rl.grow g1, by rw [List.drop_zero]; exact p1⟩, ?_⟩
  rintro i m σ H ⟨rfl, hil, F, env, gr, sf, rl, p⟩
  by_cases hlt : i < xs.length
  · refine .inr ⟨w.goes i H hlt (sf.trans gr.fh), fun σ' H' => ∃ F env, Grow F0 H0 F H' ∧ Same F1 F ∧ Rl X.K X.mg H0 env σ' F H' ∧ Post (forR gg g (xs.drop (i + 1)) env) (OutP X.K X.mg W F0 H0 D) (ExcP X.mg W F0 H0), fun σ' H' q => ⟨xs.length - (i + 1), by omega, rfl, hlt, q⟩, fun v H' y => ?_⟩
    have hxi : xs[i]? = some xs[i] := List.getElem?_eq_getElem hlt
    obtain ⟨F', g', q'⟩ := w.yields i xs[i] F H v H' hxi sf gr.fh y
    rw [List.drop_eq_getElem_cons hlt] at p
    have p := Post.bind (show Post ((gg xs[i] env).bind fun e => (g e).bind fun o => loopO o (forR gg g (xs.drop (i + 1)))) _ _ from p)
    have gr' := gr.on g'
    refine ⟨H0, F', env, xs[i], rl.grow g', q', ?_⟩
    cases z : gg xs[i] env with
    | exc c => exact absurd z (hx _ _ c)
    | bad => rw [z] at p; exact p
    | ok e =>
      rw [z] at p
      intro σ2 rl2 _
      have p := Post.bind (show Post ((g e).bind fun o => loopO o (forR gg g (xs.drop (i + 1)))) _ _ from p)
      have sf' := sf.trans g'.f
      refine ⟨F1, H0, F', e, gr1.rebase sf' gr', rl2, p.mono (fun o k => ?_) fun c k σ F' H' g'' => k σ F' H' (gr1.base g'')⟩
      cases o with
      | nx e => exact fun σ' F' H' g'' r' => ⟨F', e, gr1.base g'', g''.f, r', k⟩
      | ct e => exact fun σ' F' H' g'' r' => ⟨F', e, gr1.base g'', g''.f, r', k⟩
      | bk e => exact fun σ' F' H' g'' r' => k σ' F' H' (gr1.base g'') r'
      | rt d => exact fun v F' H' g'' q => k v F' H' (gr1.base g'') q
      | rb b d => exact fun v F' H' g'' q z => k v F' H' (gr1.base g'') q z
      | ex b c => exact fun σ F' H' g'' y z => k σ F' H' (gr1.base g'') y z
  · have e : i = xs.length := by omega
    subst e
    rw [List.drop_length] at p
    exact .inl ⟨w.stops H (sf.trans gr.fh), p σ F H gr rl⟩
end
theorem gsN_noexc : ∀ (d : List PyData) (env : Ev) c, gsN d env ≠ .exc c := fun d env c z => by cases d <;> cases z
theorem gsC_noexc {g : PyData → Ev → R Ev} {h : List PyData → Ev → R Ev} (h1 : ∀ (d : PyData) (env : Ev) c, g d env ≠ .exc c) (h2 : ∀ (d : List PyData) (env : Ev) c, h d env ≠ .exc c) : ∀ (d : List PyData) (env : Ev) c, gsC g h d env ≠ .exc c := fun d env c z => by
  cases d with
  | nil => cases z
  | cons d r =>
    have z : (g d env).bind (fun e => h r e) = .exc c := z
    cases q : g d env with
    | ok e => rw [q] at z; exact h2 r e c z
    | exc c' => exact h1 d env c' q
    | bad => rw [q] at z; cases z
theorem gT_noexc {n : Nat} {g : List PyData → Ev → R Ev} (h1 : ∀ (d : List PyData) (env : Ev) c, g d env ≠ .exc c) : ∀ (d : PyData) (env : Ev) c, gT n g d env ≠ .exc c := fun d env c z => by
  cases d <;> first | (cases z; done) | skip
  rename_i ds
  have z : (if ds.length = n then g ds env else .bad) = .exc c := z
  split at z
  · exact h1 _ _ _ z
  · cases z

/-! ### a def -/
def outD : Out → R PyData
  | .nx _ => .ok .none
  | .rt d => .ok d
  | _ => .bad
/-- what a def gives out, its names n, its body g -/
def den (n : Nat) (g : Ev → R Out) : List Sl → R PyData := fun ss => (g (ss ++ List.replicate (n - ss.length) .emp)).bind outD
theorem SlA.get {K : PySem.W.Frag} {mg : Mg} {F H : Hp} : ∀ {vs : List V} {ss : List Sl} {i : Nat} {s : Sl}, SlA K mg F H vs ss → ss[i]? = some s → ∃ v, vs[i]? = some v ∧ SlotR K mg ⟨H, 0⟩ F H s (some v) ∧ noOwn s
  | [], [], _, _, _, e => by simp at e
  | v :: vs, s :: ss, 0, _, ⟨h1, h2, h3⟩, e => by simp at e; subst e; exact ⟨v, rfl, h1, h2⟩
  | v :: vs, s :: ss, i + 1, _, ⟨h1, h2, h3⟩, e => by
    obtain ⟨u, e1, e2⟩ := SlA.get (i := i) h3 (by simpa using e)
    exact ⟨u, by simpa using e1, e2⟩
  | [], _ :: _, _, _, h, _ => h.elim
  | _ :: _, [], _, _, h, _ => h.elim
theorem Rl.start {K : PySem.W.Frag} {mg : Mg} {F H : Hp} {vs : List V} {ss : List Sl} (N : List Str) (fh : Same F H) (q : SlA K mg F H vs ss) : Rl K mg ⟨H, 0⟩ (ss ++ List.replicate (N.length - ss.length) .emp) (start N vs) F H := by
  have hl := q.length
  have hl' : (vs.map some).length = ss.length := by rw [List.length_map, hl]
  refine ⟨fh, by unfold L2.start; rw [List.length_append, List.length_append, List.length_replicate, List.length_replicate, hl', hl], fun i s w h1 h2 => ?_, fun i j xs ys a b x hij h1 h2 h3 h4 => ?_⟩
  · by_cases hi : i < ss.length
    · rw [List.getElem?_append_left hi] at h1
      unfold L2.start at h2
      rw [List.getElem?_append_left (by rw [hl']; exact hi), List.getElem?_map] at h2
      obtain ⟨v, e1, e2, e3⟩ := q.get h1
      rw [e1] at h2
      cases h2
      exact e2
    · rw [List.getElem?_append_right (by omega)] at h1
      have := (List.getElem?_eq_some_iff.mp h1)
      obtain ⟨k, e⟩ := this
      rw [List.getElem_replicate] at e
      subst e
      trivial
  · have nn : noOwn xs := by
      by_cases hi : i < ss.length
      · rw [List.getElem?_append_left hi] at h1
        obtain ⟨v, e1, e2, e3⟩ := q.get h1
        exact e3
      · rw [List.getElem?_append_right (by omega)] at h1
        obtain ⟨k, e⟩ := (List.getElem?_eq_some_iff.mp h1)
        rw [List.getElem_replicate] at e
        subst e
        trivial
    exact fun z => absurd z nn.fp
theorem fn_ok {P : Program} {w : World} {K : PySem.W.Frag} {mg : Str → Option Value} {base : Heap} {x qual : Str} {st : Stmt} {fa : Addr} {fd : FuncData} {N ps : List Str} {k : Nat} {g : Ev → R Out} (F : Fun K x qual st fa fd) (S : FnScope N ps (defScope st))
    (hb : ∀ (cdv : Value) (A : Around) (outer : List Env) (s : Shared) (H : Hp) (E : XK), Room k (A.deeper (envOfC qual (defScope st) s.heap.objs.size fa cdv)) → DSs (cxOf (L2.CX P w) P w K mg base N qual (defScope st) fa cdv A outer s H E) (fun cls d _ H => E cls d H) (defBody st) g) :
    Fn P w K mg base (k + 1) fa fd ps (den N.length g) := by
  refine F.okX S (fun vs H Q E ⟨F, ss, fh, q, hl, _⟩ => by rw [q.length, hl]) fun cdv A outer s H vs Q E hr ⟨F, ss, fh, q, hl, p⟩ => ⟨_, hb cdv A outer s H E hr, F, ⟨H, 0⟩, F, _, .refl fh, Rl.start N fh q, ?_⟩
  refine (Post.bind p).mono (fun o k => ?_) fun c k σ F' H' g' => k F' H' g'
  cases o with
  | nx e => exact fun σ' F' H' g' r' => k _ F' H' g' .non
  | rt d => exact fun v F' H' g' q => k v F' H' g' q
  | bk e => exact k.elim
  | ct e => exact k.elim
  | rb b d => exact k.elim
  | ex b c => exact k.elim
end L3

namespace L3
open PySem PySem.Spec PyProof.Rows L2

/-! ### t > u, tuples of ints -/
theorem firstLt_map {e r : Nat → Bool} {fin : Bool} : ∀ l : List Nat, SeqAt.firstLt e r fin (l.map Nat.succ) = SeqAt.firstLt (fun j => e (j + 1)) (fun j => r (j + 1)) fin l
  | [] => rfl
  | j :: t => by
    show (if e (j + 1) = true then SeqAt.firstLt e r fin (t.map Nat.succ) else r (j + 1)) = (if e (j + 1) = true then _ else r (j + 1))
    rw [firstLt_map t]
theorem firstGt_ints : ∀ ns ms : List Int, SeqAt.firstLt (fun j => decide (ns.getD j 0 = ms.getD j 0)) (fun j => decide (ms.getD j 0 < ns.getD j 0)) (decide (ns.length > ms.length)) (List.range (min ns.length ms.length)) = HT.lexLt ms ns
  | [], [] => rfl
  | [], m :: ms => by simp [SeqAt.firstLt, HT.lexLt]
  | n :: ns, [] => by simp [SeqAt.firstLt, HT.lexLt]
  | n :: ns, m :: ms => by
    have h : min (n :: ns).length (m :: ms).length = min ns.length ms.length + 1 := by simp only [List.length_cons]; omega
    rw [h, List.range_succ_eq_map]
    show (if decide (n = m) = true then SeqAt.firstLt _ _ _ _ else decide (m < n)) = (if m = n then HT.lexLt ms ns else decide (m < n))
    by_cases e : n = m
    · rw [if_pos (decide_eq_true e), if_pos e.symm, firstLt_map, ← firstGt_ints ns ms]
      have e2 : decide ((n :: ns).length > (m :: ms).length) = decide (ns.length > ms.length) := by simp
      rw [e2]
      rfl
    · rw [if_neg (fun z => e (of_decide_eq_true z)), if_neg (fun z => e z.symm)]
def rGtT (K : PySem.W.Frag) : R2 := fun x y H Q => ∃ a b ns ms, x = .ref a ∧ y = .ref b ∧ SqT K H a (ns.map V.int) ∧ SqT K H b (ms.map V.int) ∧ Q (.bl (HT.lexLt ms ns)) H
theorem op_gtT {X : Cx} (hu : X.A.units < cLine) : OpR X (compareOp .Gt) (rGtT X.K) := by
  intro pins s σ H x y v u Q I rx ry h
  obtain ⟨a, b, ns, ms, rfl, rfl, ha, hb, q⟩ := h
  cases rx
  cases ry
  obtain ⟨its, r1, p1, _⟩ := I.tuple ha
  obtain ⟨its2, r2, p2, _⟩ := I.tuple hb
  have i1 : IntsAre its ns := Vals.ints r1
  have i2 : IntsAre its2 ms := Vals.ints r2
  have e1 : its.toArray.size = ns.length := by rw [List.size_toArray]; exact i1.length
  have e2 : its2.toArray.size = ms.length := by rw [List.size_toArray]; exact i2.length
  have at1 : ∀ j (h1 : j < its.toArray.size), ∃ t, its.toArray[j] = .int (ns.getD j 0) t := fun j h1 => PyProof.Rows.IntsAre.int_at i1 _ _ (by simp at h1; simp [h1])
  have at2 : ∀ j (h1 : j < its2.toArray.size), ∃ t, its2.toArray[j] = .int (ms.getD j 0) t := fun j h1 => PyProof.Rows.IntsAre.int_at i2 _ _ (by simp at h1; simp [h1])
  have key := SeqAt.RcOp.tuples_gt (A := X.A) (s := s) (e := fun j => decide (ns.getD j 0 = ms.getD j 0)) (r := fun j => decide (ms.getD j 0 < ns.getD j 0)) p1 p2 hu (fun j h1 h2 => ?_) (fun j h1 h2 _ => ?_)
  · rw [e1, e2, firstGt_ints] at key
    exact key X.prog X.w X.xe _ ⟨.bl _, H, I, rfl, q⟩
  · obtain ⟨t, k1⟩ := at1 j h1
    obtain ⟨t', k2⟩ := at2 j h2
    rw [k1, k2]
    have z : (ns.getD j 0 == ms.getD j 0) = decide (ns.getD j 0 = ms.getD j 0) := by
      by_cases q : ns.getD j 0 = ms.getD j 0
      · rw [decide_eq_true q]; exact beq_iff_eq.mpr q
      · rw [decide_eq_false q]; exact beq_eq_false_iff_ne.mpr q
    show SeqAt.EqAt _ _ _ _ (decide (ns.getD j 0 = ms.getD j 0))
    rw [← z]
    exact SeqAt.EqAt.int_int _ _ _ _
  · obtain ⟨t, k1⟩ := at1 j h1
    obtain ⟨t', k2⟩ := at2 j h2
    rw [k1, k2]
    exact fun prog w E Q h => gt_int h

def gtA : PyData → PyData → R PyData
  | .int i, .int j => .ok (.bool (decide (j < i)))
  | .tuple xs, .tuple ys => match intsOf xs, intsOf ys with
    | some ns, some ms => .ok (.bool (HT.lexLt ms ns))
    | _, _ => .bad
  | _, _ => .bad
def rGtA (K : PySem.W.Frag) : R2 := fun x y H Q => (rI0 fun i j => .bl (decide (j < i))) x y H Q ∨ rGtT K x y H Q
section
variable {X : Cx} {W : WX} {a b c d e : Expr} {es : List Expr} {f g h f4 : Ev → R PyData} {pos p p2 apos cpos : Pos} {x : Str}
theorem op_gtA {k : Nat} (hr : Room k X.A) : OpR X (compareOp .Gt) (rGtA X.K) := op_gt.or (op_gtT hr.units0)
theorem opd_gtA (K : PySem.W.Frag) : OpD (rGtA K) gtA := by
  intro F H x y d e Q E fh bx bY p
  unfold gtA at p
  split at p
  · have := bx.int; subst this; have := bY.int; subst this
    exact .inl ⟨_, _, rfl, rfl, p _ F H (.refl fh) (.bl _)⟩
  · obtain ⟨ax, vx, rfl, fx, hx, qx⟩ := bx.tup fh
    obtain ⟨ay, vy, rfl, fy, hy, qy⟩ := bY.tup fh
    split at p
    · rename_i ns ms e1 e2
      rw [intsOf_eq e1] at qx
      rw [intsOf_eq e2] at qy
      have e3 := qx.ints; have e4 := qy.ints
      subst e3; subst e4
      exact .inr ⟨ax, ay, ns, ms, rfl, rfl, .inl (.inl hx), .inl (.inl hy), p _ F H (.refl fh) (.bl _)⟩
    · exact p.elim
  · exact p.elim

/-! ### the script -/
def dScrLen (i : Nat) : Ev → R PyData := fun env => match sget env i with
  | .scr ns => .ok (.int ns.length)
  | _ => .bad
theorem scr_run {env : Ev} {i : Nat} {α : Type} {r : List Int → R α} {k : α → Prop} {E : Str → Prop} (p : Post (match sget env i with | .scr ns => r ns | _ => .bad) k E) : ∃ ns, sget env i = .scr ns ∧ Post (r ns) k E := by
  cases e : sget env i with
  | scr ns => rw [e] at p; exact ⟨ns, rfl, p⟩
  | _ => rw [e] at p; exact p.elim
theorem de_scrLen (i : Nat) (hm : X.mg "len" = none) (hN : X.N[i]? = some x := by rfl) (hv : Vis X.env.scope x := by first | exact Or.inl rfl | exact Or.inr (Or.inl rfl) | exact Or.inr (Or.inr rfl)) (hd : (x == ("__debug__" : Str)) = false := by decide)
    (hcd : (x == ("__classdict__" : Str)) = false := by decide) (hgl : Gl X "len" := by rfl) (he : starEach (.Name x p2 :: []) X.env = (false, eval (.Name x p2) X.env) :: starEach [] X.env := by rfl) (hpl : (backTo pos (starEach [] X.env)).any (·.1) = false := by rfl) :
    DE X W (.Call (.Name "len" p) [.Name x p2] [] pos) (dScrLen i) := pre_E (pe_callB call_len_seq hgl hm boot_len (pa_cons (pe_var hN hv hd hcd) pa_nil he) (by decide) (by decide) he hpl) fun σ H Q ⟨H0, F, env, rl, p⟩ => by
  obtain ⟨ns, e, p⟩ := scr_run (r := fun ns => R.ok (PyData.int (ns.length : Int))) p
  obtain ⟨l, e1, e2⟩ := rl.scr e
  refine ⟨_, e1, l, ns.map V.int, rfl, .inl e2.seq, ?_⟩
  rw [List.length_map]
  exact p _ F H (.refl rl.fh) (.int _)
def dScrIx (i : Nat) (f : Ev → R PyData) : Ev → R PyData := fun env => match sget env i with
  | .scr ns => (f env).bind fun x => (asInt x).bind fun k => (opt (atI ns k)).bind fun z => .ok (.int z)
  | _ => .bad
theorem atI_map {α β : Type} (g : α → β) (xs : List α) (i : Int) : atI (xs.map g) i = (atI xs i).map g := by
  unfold atI
  rw [List.length_map]
  cases ixN xs.length i with
  | none => rfl
  | some j => show (xs.map g)[j]? = (xs[j]?).map g; rw [List.getElem?_map]
theorem de_scrIx (i : Nat) (hb : DE X W b f) (hN : X.N[i]? = some x := by rfl) (hv : Vis X.env.scope x := by first | exact Or.inl rfl | exact Or.inr (Or.inl rfl) | exact Or.inr (Or.inr rfl)) (hd : (x == ("__debug__" : Str)) = false := by decide)
    (hcd : (x == ("__classdict__" : Str)) = false := by decide) (hs : PlainIx b := by exact fun _ _ => rfl) : DE X W (.Subscript (.Name x p) b pos) (dScrIx i f) := pre_E (pe_ix ix_list (pe_var hN hv hd hcd) hb hs) fun σ H Q ⟨H0, F, env, rl, p⟩ => by
  obtain ⟨ns, e, p⟩ := scr_run (r := fun ns => (f env).bind fun x => (asInt x).bind fun k => (opt (atI ns k)).bind fun z => R.ok (PyData.int z)) p
  obtain ⟨l, e1, e2⟩ := rl.scr e
  refine ⟨_, e1, H0, F, env, rl, (Post.bind p).mono (fun d p1 v F1 H1 g1 q => ?_) fun c k => k⟩
  cases d <;> first | exact p1.elim | skip
  rename_i k
  cases q
  have p1 := Post.bind (show Post ((opt (atI ns k)).bind fun z => R.ok (PyData.int z)) _ _ from p1)
  cases z : atI ns k with
  | none => rw [z] at p1; exact p1.elim
  | some n =>
    rw [z] at p1
    exact ⟨l, ns.map V.int, k, .int n, rfl, rfl, (e2.mono g1.h).seq, by rw [atI_map, z]; rfl, p1 _ F1 H1 g1 (.int _)⟩

/-! ### methods of texts -/
def asStr : PyData → R Str
  | .str a => .ok a
  | _ => .bad
def dSm1 (g : Str → PyData → R PyData) (f1 f2 : Ev → R PyData) : Ev → R PyData := fun env => (f1 env).bind fun x => (asStr x).bind fun a => (f2 env).bind fun y => g a y
def MtD (r : V → List V → Hp → VK → Prop) (g : Str → PyData → R PyData) : Prop := ∀ (F H : Hp) (a : Str) (y : V) (e : PyData) (Q : VK) (E : Str → Prop), Same F H → Dq F y e →
  Post (g a e) (fun z => ∀ v F' H', Grow F H F' H' → Dq F' v z → Q v H') E → r (.str a) [y] H Q
theorem de_sm1 {id : String} {name : Str} {r : V → List V → Hp → VK → Prop} {gg : Str → PyData → R PyData} (slot : Slot "str" name id) (ty : typeOf (.builtin id) = pure (.type "method_descriptor")) (rule : MtR X id r) (hg : MtD r gg) (ha : DE X W a f) (hb : DE X W b g)
    (hs : starEach [b] X.env = [(false, eval b X.env)] := by rfl) (hbase : attributeBase a name X.env (eval a X.env) = eval a X.env := by rfl) (hline : (apos.endLine == pos.line) = true := by rfl) :
    DE X W (.Call (.Attribute a name apos) [b] [] pos) (dSm1 gg f g) := pre_E (pe_m1 slot ty rule ha hb hs hbase hline) fun σ H Q ⟨H0, F, env, rl, p⟩ => by
  refine ⟨H0, F, env, rl, (Post.bind p).mono (fun d p1 v F1 H1 g1 q => ?_) fun c k => k⟩
  cases d <;> first | exact p1.elim | skip
  rename_i z
  cases q
  refine ⟨⟨z, rfl⟩, H0, F1, env, rl.grow g1, (Post.bind (show Post ((g env).bind fun y => gg z y) _ _ from p1)).mono (fun d2 p2 v2 F2 H2 g2 q2 => ?_) fun c k F' H' g' => k F' H' (g1.trans g')⟩
  exact hg F2 H2 z v2 d2 Q _ g2.fh q2 (p2.mono (fun z k v F' H' g' q => k v F' H' ((g1.trans g2).trans g') q) fun _ k => k)
def stripD (a : Str) : PyData → R PyData
  | .str b => if a.length ≤ BIG then .ok (.str (Txt.stripChars a b)) else .bad
  | _ => .bad
theorem md_strip : MtD (fun x xs H Q => ∃ a b, x = .str a ∧ xs = [.str b] ∧ a.length ≤ sizeLine ∧ Q (.str (Txt.stripChars a b)) H) stripD := by
  intro F H a y e Q E fh q p
  cases e <;> first | exact p.elim | skip
  rename_i b
  cases q
  have p : Post (if a.length ≤ BIG then R.ok (PyData.str (Txt.stripChars a b)) else .bad) _ _ := p
  split at p
  · rename_i hh; exact ⟨a, b, rfl, rfl, big_le hh, p _ F H (.refl fh) (.str _)⟩
  · exact p.elim
def joinD (a : Str) : PyData → R PyData
  | .list xs => (opt (strsOf xs)).bind fun ys => if (ys.map (·.length)).sum + ys.length * a.length ≤ BIG then .ok (.str (Txt.join a ys)) else .bad
  | _ => .bad
theorem md_join (K : PySem.W.Frag) : MtD (fun x xs H Q => ∃ a p, ∃ ys : List Str, x = .str a ∧ xs = [.ref p] ∧ (SqL K H p (ys.map V.str) ∨ SqT K H p (ys.map V.str)) ∧ (ys.map (·.length)).sum + ys.length * a.length ≤ 16777216 ∧ Q (.str (Txt.join a ys)) H) joinD := by
  intro F H a y e Q E fh q p
  cases e <;> first | exact p.elim | skip
  rename_i xs
  cases q with
  | lst hl q =>
    have p := Post.bind (show Post ((opt (strsOf xs)).bind fun ys => if (ys.map (·.length)).sum + ys.length * a.length ≤ BIG then R.ok (PyData.str (Txt.join a ys)) else .bad) _ _ from p)
    cases z : strsOf xs with
    | none => rw [z] at p; exact p.elim
    | some ys =>
      rw [z] at p
      have p : Post (if (ys.map (·.length)).sum + ys.length * a.length ≤ BIG then R.ok (PyData.str (Txt.join a ys)) else .bad) _ _ := p
      split at p
      · rename_i hh
        rw [strsOf_eq z] at q
        have := q.strs; subst this
        exact ⟨a, _, ys, rfl, rfl, .inl (.inl (.inl (fh _ _ hl))), Nat.le_trans hh (by decide), p _ F H (.refl fh) (.str _)⟩
      · exact p.elim
def splitD (a : Str) : PyData → R PyData
  | .str b => if b.length ≠ 0 ∧ a.length ≤ BIG then .ok (.list ((Txt.split a b).map PyData.str)) else .bad
  | _ => .bad
theorem strs_dq {F : Hp} : ∀ ys : List Str, DqA F (ys.map V.str) (ys.map PyData.str)
  | [] => .nil
  | y :: ys => .cons (.str y) (strs_dq ys)
theorem md_split : MtD (fun x xs H Q => ∃ a b, x = .str a ∧ xs = [.str b] ∧ (b.length == 0) = false ∧ a.length + 2 ≤ sizeLine ∧ rNewStrs (Txt.split a b) H Q) splitD := by
  intro F H a y e Q E fh q p
  cases e <;> first | exact p.elim | skip
  rename_i b
  cases q
  have p : Post (if b.length ≠ 0 ∧ a.length ≤ BIG then R.ok (PyData.list ((Txt.split a b).map PyData.str)) else .bad) _ _ := p
  split at p
  · rename_i hh
    refine ⟨a, b, rfl, rfl, beq_eq_false_iff_ne.mpr hh.1, by have := hh.2; unfold BIG at this; rw [sizeLine_eq]; omega, fun q nq => ?_⟩
    have g := Grow.new (o := .lst ((Txt.split a b).map V.str)) fh nq
    exact p _ _ _ g (.lst upd_same (strs_dq _))
  · exact p.elim
def startsD (a : Str) : PyData → R PyData
  | .str b => .ok (.bool (Txt.startswith a b))
  | _ => .bad
theorem md_starts : MtD (fun x xs H Q => ∃ a b, x = .str a ∧ xs = [.str b] ∧ Q (.bl (Txt.startswith a b)) H) startsD := by
  intro F H a y e Q E fh q p
  cases e <;> first | exact p.elim | skip
  cases q
  exact ⟨a, _, rfl, rfl, p _ F H (.refl fh) (.bl _)⟩
def endsD (a : Str) : PyData → R PyData
  | .str b => .ok (.bool (Txt.endswith a b))
  | _ => .bad
theorem md_ends : MtD (fun x xs H Q => ∃ a b, x = .str a ∧ xs = [.str b] ∧ Q (.bl (Txt.endswith a b)) H) endsD := by
  intro F H a y e Q E fh q p
  cases e <;> first | exact p.elim | skip
  cases q
  exact ⟨a, _, rfl, rfl, p _ F H (.refl fh) (.bl _)⟩

/-! ### three comparisons in a chain -/
def tChain3 (r r' r'' : R2) (ta tb tc td : TE) : TE := fun σ H Q => ta σ H fun x H1 => tb σ H1 fun y H2 => r x y H2 fun z H3 => ∃ k, z = .bl k ∧ (if k = true then tChain' r' r'' y tc td σ H3 Q else Q (.bl false) H3)
where tChain' (r' r'' : R2) (y : V) (tc td : TE) : TE := fun σ H3 Q => tc σ H3 fun w' H4 => r' y w' H4 fun z H5 => ∃ k, z = .bl k ∧ (if k = true then td σ H5 fun u H6 => r'' w' u H6 Q else Q (.bl false) H5)
theorem pe_chain3 {op op' op'' : CmpOp} {r r' r'' : R2} {ta tb tc td : TE} (ho : OpR X (compareOp op) r) (ho' : OpR X (compareOp op') r') (ho'' : OpR X (compareOp op'') r'') (ha : PE X a ta) (hb : PE X b tb) (hc : PE X c tc) (hd : PE X d td)
    (hm : lastMarks [op, op', op''] [b, c, d] = false := by with_unfolding_all rfl) : PE X (.Compare a [op, op', op''] [b, c, d] pos) (tChain3 r r' r'' ta tb tc td) := by
  refine ⟨fun pins s σ H Q I h => ?_⟩
  refine Compare_chain (thn (ha.run pins s σ H _ I h) fun v s1 ⟨x, H1, I1, r1, q1⟩ => chain_link (thn (hb.run pins s1 σ H1 _ I1 q1) fun u s2 ⟨y, H2, I2, r2, q2⟩ =>
    thn (ho pins s2 σ H2 x y v u _ I2 r1 r2 q2) fun d s3 ⟨z, H3, I3, r3, k, e, q3⟩ => ?_)) hm
  subst e
  cases r3
  refine wpAny_truthy_bool ?_
  cases k with
  | false => exact ite_ff ⟨.bl false, H3, I3, rfl, q3⟩
  | true =>
    refine ite_tt (chain_link (thn (hc.run pins s3 σ H3 _ I3 q3) fun w' s4 ⟨z', H4, I4, r4, q4⟩ => thn (ho' pins s4 σ H4 y z' u w' _ I4 r2 r4 q4) fun d' s5 ⟨z2, H5, I5, r5, k2, e2, q5⟩ => ?_))
    subst e2
    cases r5
    refine wpAny_truthy_bool ?_
    cases k2 with
    | false => exact ite_ff ⟨.bl false, H5, I5, rfl, q5⟩
    | true => exact ite_tt (chain_last (thn (hd.run pins s5 σ H5 _ I5 q5) fun w6 s6 ⟨z6, H6, I6, r6, q6⟩ => ho'' pins s6 σ H6 z' z6 w' w6 Q I6 r4 r6 q6))
def dChain3 (g1 g2 g3 : PyData → PyData → R PyData) (f1 f2 f3 f4 : Ev → R PyData) : Ev → R PyData := fun env => (f1 env).bind fun x => (f2 env).bind fun y => (g1 x y).bind fun z => (asBool z).bind fun k =>
  if k = true then (f3 env).bind fun w => (g2 y w).bind fun z2 => (asBool z2).bind fun k2 => if k2 = true then (f4 env).bind fun u => g3 w u else .ok (.bool false) else .ok (.bool false)
theorem dChain3_run {r r' r'' : R2} {gg gg' gg'' : PyData → PyData → R PyData} (hg : OpD r gg) (hg' : OpD r' gg') (hg'' : OpD r'' gg'') {σ : L2.St} {H : Hp} {Q : VK} (p : tD X.K X.mg W (dChain3 gg gg' gg'' f g h f4) σ H Q) :
    tChain3 r r' r'' (tBo X.K X.mg W f) (tBo X.K X.mg W g) (tBo X.K X.mg W h) (tBo X.K X.mg W f4) σ H Q := by
  obtain ⟨H0, F, env, rl, p⟩ := p
  refine ⟨H0, F, env, rl, (Post.bind p).mono (fun d p1 v F1 H1 g1 b1 => ?_) fun c p1 => p1⟩
  refine ⟨H0, F1, env, rl.grow g1, (Post.bind p1).mono (fun d2 p2 v2 F2 H2 g2 b2 => ?_) fun c p2 F' H' g' => p2 F' H' (g1.trans g')⟩
  have g12 := g1.trans g2
  refine hg F2 H2 v v2 d d2 _ _ g2.fh (b1.grow g2) b2 ((Post.bind p2).mono (fun z p3 v3 F3 H3 g3 b3 => ?_) fun _ k => k)
  cases z <;> first | exact p3.elim | skip
  rename_i k
  cases b3
  refine ⟨k, rfl, ?_⟩
  have g13 := g12.trans g3
  cases k with
  | false => exact p3 _ F3 H3 g13 (.bl false)
  | true =>
    refine iteT ⟨H0, F3, env, rl.grow g13, (Post.bind (show Post ((h env).bind fun w => (gg' d2 w).bind fun z2 => (asBool z2).bind fun k2 => if k2 = true then (f4 env).bind fun u => gg'' w u else .ok (.bool false)) _ _ from p3)).mono (fun d4 p4 v4 F4 H4 g4 b4 => ?_) fun c p4 F' H' g' => p4 F' H' (g13.trans g')⟩
    refine hg' F4 H4 v2 v4 d2 d4 _ _ g4.fh ((b2.grow g3).grow g4) b4 ((Post.bind p4).mono (fun z p5 v5 F5 H5 g5 b5 => ?_) fun _ k => k)
    cases z <;> first | exact p5.elim | skip
    rename_i k2
    cases b5
    refine ⟨k2, rfl, ?_⟩
    have g15 := (g13.trans g4).trans g5
    cases k2 with
    | false => exact p5 _ F5 H5 g15 (.bl false)
    | true =>
      refine iteT ⟨H0, F5, env, rl.grow g15, (Post.bind (show Post ((f4 env).bind fun u => gg'' d4 u) _ _ from p5)).mono (fun d6 p6 v6 F6 H6 g6 b6 => ?_) fun c p6 F' H' g' => p6 F' H' (g15.trans g')⟩
      exact hg'' F6 H6 v4 v6 d4 d6 _ _ g6.fh ((b4.grow g5).grow g6) b6 (p6.mono (fun z k v F' H' g' q => k v F' H' ((g15.trans g6).trans g') q) fun _ k => k)
theorem de_chain3 {op op' op'' : CmpOp} {r r' r'' : R2} {gg gg' gg'' : PyData → PyData → R PyData} (ho : OpR X (compareOp op) r) (hg : OpD r gg) (ho' : OpR X (compareOp op') r') (hg' : OpD r' gg') (ho'' : OpR X (compareOp op'') r'') (hg'' : OpD r'' gg'')
    (ha : DB X W a f) (hb : DB X W b g) (hc : DB X W c h) (hd : DB X W d f4) (hm : lastMarks [op, op', op''] [b, c, d] = false := by with_unfolding_all rfl) : DE X W (.Compare a [op, op', op''] [b, c, d] pos) (dChain3 gg gg' gg'' f g h f4) :=
  pre_E (pe_chain3 ho ho' ho'' ha hb hc hd hm) fun σ H Q p => dChain3_run hg hg' hg'' p

/-! ### raise -/
def sRaise (c : Str) : Ev → R Out := fun _ => .exc c
structure ExcAt (K : PySem.W.Frag) (mg : Str → Option Value) (c : Str) : Prop where
  ex : ∃ C : Addr, mg c = some (.ref C) ∧ PySem.W.excIn K C He.veBase "ValueError.__new__" = true ∧ PySem.W.keepIn K (.ref C) = true ∧ PySem.W.subIn K (.ref C) (.type "BaseException") = some true ∧ PySem.W.typeIn K (.ref C) = some (.type "type")
theorem ds_raise {m : Str} {j : Nat} (XX : ExcAt X.K X.mg x) (tk : Takes X W) (hc : X.calm = true := by rfl) (hg : Gl X x := by rfl) (hdb : (x == ("__debug__" : Str)) = false := by decide) : DS X W (.Raise (some (.Call (.Name x p) [.Constant (.str m) j p2] [] pos)) none cpos) (sRaise x) := by
  obtain ⟨C, gC, q, kC, bC, tC⟩ := XX.ex
  refine pre_S (ps_raise hc tk (pmk_own PySem.F.excBase_ValueError q gC kC (raises_own bC tC) hg hdb)) fun D σ H ⟨F0, H0, F, env, gr, rl, p⟩ => ?_
  have p : ExcP X.mg W F0 H0 x := p
  have k := p σ F H gr
  unfold cav at k
  rw [gC] at k
  exact k

/-! ### defs by name -/
structure Cal (P : Program) (w : World) (K : PySem.W.Frag) (mg : Str → Option Value) (base : Heap) (k : Nat) (name : Str) (ps : List Str) (m : List Sl → R PyData) : Prop where
  ex : ∃ (fa : Addr) (fd : FuncData), Fn P w K mg base k fa fd ps m ∧ mg name = some (.ref fa) ∧ PySem.W.keepIn K (.ref fa) = true ∧ Binds K fd ps []
theorem de_callC {k n : Nat} {ps : List Str} {m : List Sl → R PyData} {l : Ev → R (List Sl)} (C : Cal X.prog X.w X.K X.mg X.base k x ps m) (hr : Room k X.A) (tk : Takes X W) (ha : DA X W (e :: es) l) (hg : Gl X x := by rfl) (hdb : (x == ("__debug__" : Str)) = false := by decide)
    (he : starEach (e :: es) X.env = (false, eval e X.env) :: starEach es X.env := by rfl) (hpl : (backTo pos (starEach es X.env)).any (·.1) = false := by rfl) (hn : ps.length = n := by rfl) : DE X W (.Call (.Name x p) (e :: es) [] pos) (dCall n m l) := by
  subst hn
  obtain ⟨fa, fd, F, hm, hk, hb⟩ := C.ex
  exact de_call F hm hk hb hr tk ha hg hdb he hpl
abbrev FnP (K : PySem.W.Frag) (x : Str) (st : Stmt) (fa : Addr) (fd : FuncData) : Prop := FunD K x x (defArgs st) (defBody st) (defScope st) [] [] fa fd
theorem fn_okD {P : Program} {w : World} {K : PySem.W.Frag} {mg : Str → Option Value} {base : Heap} {x qual : Str} {params : Arguments} {body : List Stmt} {scope : Scope} {fa : Addr} {fd : FuncData} {N ps : List Str} {k : Nat} {g : Ev → R Out} (F : FunD K x qual params body scope [] [] fa fd) (S : FnScope N ps scope)
    (hb : ∀ (cdv : Value) (A : Around) (outer : List Env) (s : Shared) (H : Hp) (E : XK), Room k (A.deeper (envOfC qual scope s.heap.objs.size fa cdv)) → DSs (cxOf (L2.CX P w) P w K mg base N qual scope fa cdv A outer s H E) (fun cls d _ H => E cls d H) body g) :
    Fn P w K mg base (k + 1) fa fd ps (den N.length g) := by
  refine F.ok S (fun vs H Q E ⟨F, ss, fh, q, hl, _⟩ => by rw [q.length, hl]) fun cdv A outer s H vs Q E hr ⟨F, ss, fh, q, hl, p⟩ => ⟨_, hb cdv A outer s H E hr, F, ⟨H, 0⟩, F, _, .refl fh, Rl.start N fh q, ?_⟩
  refine (Post.bind p).mono (fun o k => ?_) fun c k σ F' H' g' => k F' H' g'
  cases o with
  | nx e => exact fun σ' F' H' g' r' => k _ F' H' g' .non
  | rt d => exact fun v F' H' g' q => k v F' H' g' q
  | bk e => exact k.elim
  | ct e => exact k.elim
  | rb b d => exact k.elim
  | ex b c => exact k.elim
theorem cal_mk {P : Program} {w : World} {K : PySem.W.Frag} {mg : Str → Option Value} {base : Heap} {x : Str} {st : Stmt} {fa : Addr} {fd : FuncData} {N ps : List Str} {k : Nat} {g : Ev → R Out} (F : FnP K x st fa fd) (hm : mg x = some (.ref fa)) (S : FnScope N ps (defScope st))
    (hbind : ∀ (kV doc pm : Value) (an : Option Addr) (cdv ct : Value) (us : List Value), us.length = ps.length → bindArgs (PySem.W.fnOf x x (defArgs st) (defBody st) (defScope st) .none kV doc pm an cdv ct) ⟨us, []⟩ = pure (ps.zip us))
    (hb : ∀ (cdv : Value) (A : Around) (outer : List Env) (s : Shared) (H : Hp) (E : XK), Room k (A.deeper (envOfC x (defScope st) s.heap.objs.size fa cdv)) → DSs (cxOf (L2.CX P w) P w K mg base N x (defScope st) fa cdv A outer s H E) (fun cls d _ H => E cls d H) (defBody st) g) :
    Cal P w K mg base (k + 1) x ps (den N.length g) := ⟨fa, fd, fn_okD F S hb, hm, F.kp, F.bindsN hbind⟩
def badM : List Sl → R PyData := fun _ => .bad
theorem cal_void {P : Program} {w : World} {K : PySem.W.Frag} {mg : Str → Option Value} {base : Heap} {x : Str} {st : Stmt} {fa : Addr} {fd : FuncData} {ps : List Str} {k : Nat} (F : FnP K x st fa fd) (hm : mg x = some (.ref fa))
    (hbind : ∀ (kV doc pm : Value) (an : Option Addr) (cdv ct : Value) (us : List Value), us.length = ps.length → bindArgs (PySem.W.fnOf x x (defArgs st) (defBody st) (defScope st) .none kV doc pm an cdv ct) ⟨us, []⟩ = pure (ps.zip us)) :
    Cal P w K mg base k x ps badM := by
  refine ⟨fa, fd, ?_, hm, F.kp, F.bindsN hbind⟩
  have no : ∀ vs H Q E, ¬ spD K mg badM ps.length vs H Q E := fun vs H Q E ⟨_, _, _, _, _, p⟩ => p
  constructor
  · exact fun vs H Q E h => (no _ _ _ _ h).elim
  · intros
    exact (no _ _ _ _ (by assumption)).elim
end
end L3

namespace L3
open PySem PySem.Spec PyProof.Rows L2
open PySem.W (alike alikeAll AllAlike Sortable dataLe EachIs)
/-! ### sorted(xs), xs a list of data -/
def neTup : PyData → Bool
  | .tuple (_ :: _) => true
  | _ => false
def noTup : PyData → Bool
  | .none => false
  | .tuple _ => false
  | _ => true
def sortOk (xs : List PyData) : Bool := xs.all (shp 60) && xs.all (fun d => xs.all (alike d)) && (xs.all neTup || xs.all noTup)
def sortedD : PyData → R PyData
  | .list xs => if sortOk xs = true ∧ xs.length ≤ BIG then .ok (.list (xs.mergeSort (dataLe false id))) else .bad
  | _ => .bad
theorem sortOk_of {xs : List PyData} (h : sortOk xs = true) : (∀ d ∈ xs, shp 60 d = true) ∧ AllAlike xs ∧ Sortable xs := by
  unfold sortOk at h
  rw [Bool.and_eq_true, Bool.and_eq_true, Bool.or_eq_true] at h
  obtain ⟨⟨h1, h2⟩, h3⟩ := h
  refine ⟨fun d hd => List.all_eq_true.mp h1 d hd, fun d hd e he => List.all_eq_true.mp (List.all_eq_true.mp h2 d hd) e he, ?_⟩
  rcases h3 with h3 | h3
  · refine .inl fun d hd => ?_
    have := List.all_eq_true.mp h3 d hd
    cases d <;> try cases this
    rename_i ys
    cases ys with
    | nil => cases this
    | cons y r => exact ⟨y, r, rfl⟩
  · refine .inr fun d hd => ?_
    have := List.all_eq_true.mp h3 d hd
    cases d <;> first | (cases this; done) | exact ⟨(fun e => by cases e), (fun _ e => by cases e)⟩
def rSortedD (K : PySem.W.Frag) : List V → Hp → VK → Prop := fun vs H Q => ∃ (a : Addr) (xs : List V) (ds : List PyData) (F : Hp), vs = [V.ref a] ∧ SqL K H a xs ∧ Same F H ∧ DqA F xs ds ∧ sortOk ds = true ∧
  ∀ (ys : List V) (p : Addr), DqA F ys (ds.mergeSort (dataLe false id)) → H p = none → Q (.ref p) (upd H p (.lst ys))
theorem each_of {F : Hp} {K : PySem.W.Frag} {H : Hp} : ∀ {xs : List V} {ds : List PyData} {us : List Value}, DqA F xs ds → Vals xs us → EachIs (fun u d => ∃ x : V, RelV x u ∧ Dq F x d) us ds
  | _, _, _, .nil, .nil => .nil
  | _, _, _, .cons h t, .cons r s => .cons ⟨_, r, h⟩ (each_of (K := K) (H := H) t s)
theorem of_each {F : Hp} : ∀ {us : List Value} {ds : List PyData}, EachIs (fun u d => ∃ x : V, RelV x u ∧ Dq F x d) us ds → ∃ ys : List V, Vals ys us ∧ DqA F ys ds
  | _, _, .nil => ⟨[], .nil, .nil⟩
  | _, _, .cons ⟨x, r, h⟩ t => by
    obtain ⟨ys, h1, h2⟩ := of_each t
    exact ⟨x :: ys, .cons r h1, .cons h h2⟩
section
variable {X : Cx}
theorem cr_sortedD {k : Nat} (hr : Room k X.A) : CallR X (.builtin "sorted") (rSortedD X.K) := by
  intro pins s σ H vs us Q I r h
  obtain ⟨a, xs, ds, F, rfl, hs, fh, hd, hk, q⟩ := h
  obtain ⟨its, rv, hl, hz⟩ := I.list hs
  rw [Vals.ref1 r]
  obtain ⟨k1, k2, k3⟩ := sortOk_of hk
  have e0 : EachIs (fun u d => ∃ x : V, RelV x u ∧ Dq F x d) its ds := each_of (K := X.K) (H := H) hd rv
  have e1 : EachIs (fun u d => ∃ as, Reads s.heap u (id d) as) its ds := e0.mono fun u d ⟨x, r, h⟩ => Dp.reads I d x u (Dq.dp fh d x h) r
  have hlen : ds.length ≤ sizeLine := by rw [← hd.length]; exact hz
  refine PySem.W.sorted_data (enc := id) hl.isList e0 e1 (by rw [List.map_id]; exact k2) (by rw [List.map_id]; exact k3) hlen (fun d hm => ?_) fun out ho eo => ?_
  · have h1 := (shp_ok 60 d (k1 d hm)).2
    have h2 := hr.un
    show X.A.units + 2 + d.depth < cLine
    omega
  · obtain ⟨ys, y1, y2⟩ := of_each eo
    obtain ⟨ep, he'⟩ := PyProof.Rows.sortedAll_at s.heap its out.toArray
    have hyl : ys.length ≤ sizeLine := by rw [y2.length, List.length_mergeSort]; exact hlen
    exact ⟨.ref _, upd H (s.heap.objs.size + 1) (.lst ys), I.laid (t' := s.toks) (fun _ _ => PyProof.Rows.sortedAll_old) (Nat.le_succ _) ⟨hyl, out, ep, y1, he'⟩, rfl, q _ _ y2 (I.hok.fresh (Nat.le_succ _))⟩
end
section
variable {X : Cx} {W : WX} {a : Expr} {f : Ev → R PyData} {pos p : Pos}
theorem cd_sortedD (K : PySem.W.Frag) : CallD (rSortedD K) sortedD := by
  intro F H v d Q E fh b p
  unfold sortedD at p
  split at p
  · obtain ⟨l, vs, rfl, h1, h2⟩ := b.list fh
    split at p
    · rename_i hh
      exact ⟨l, vs, _, F, rfl, .inl (.inl h1), fh, h2, hh.1, fun ys q y hn => p _ _ _ (Grow.new fh hn) (.lst (by rw [upd_same]) (DqA.mono (Grow.new (o := .lst ys) fh hn).f _ _ y))⟩
    · exact p.elim
  · exact p.elim
theorem de_sorted {k : Nat} (hr : Room k X.A) (hm : X.mg "sorted" = none) (ha : DB X W a f) (hgl : Gl X "sorted" := by rfl) (he : starEach (a :: []) X.env = (false, eval a X.env) :: starEach [] X.env := by rfl) (hpl : (backTo pos (starEach [] X.env)).any (·.1) = false := by rfl) :
    DE X W (.Call (.Name "sorted" p) [a] [] pos) (d1 sortedD f) := de_callB (cr_sortedD hr) (cd_sortedD _) hm ha hgl (by decide +kernel) (by decide) (by decide) he hpl
end
end L3

namespace L3
open PySem PySem.Spec PyProof.Rows L2
/-! ### xs[lo:hi:step] of a list -/
def stepL {α : Type} (xs : List α) (lo hi st : Option Int) : List α := (sliceRange (sliceBounds lo hi st xs.length).1 (sliceBounds lo hi st xs.length).2.1 (sliceBounds lo hi st xs.length).2.2).filterMap (xs[·]?)
def SlR3 (X : Cx) (r : V → Option Int → Option Int → Option Int → Hp → VK → Prop) : Prop :=
  ∀ (pins : List (Addr × Obj)) (s : Shared) (σ : L2.St) (H : Hp) (x : V) (v vl vu vs : Value) (lo hi st : Option Int) (sl : Addr) (Q : VK), Inv X pins σ H s → RelV x v → s.heap.IsSliceOf sl vl vu vs → IsPart vl lo → IsPart vu hi → IsPart vs st → r x lo hi st H Q →
    ∃ T id, typeLookup (.type T) "__getitem__" = pure (some (.builtin id)) ∧ s.TypeIs v T ∧ wpAny (model X.prog X.w) X.A (getItem v (.ref sl)) (EP X pins σ Q) X.xe s
def tSl3 (r : V → Option Int → Option Int → Option Int → Hp → VK → Prop) (te : TE) (tl th ts : TO) : TE := fun σ H Q => te σ H fun x H1 => tl σ H1 fun l H2 => th σ H2 fun u H3 => ts σ H3 fun c H4 => r x l u c H4 Q
section
variable {X : Cx}
theorem pe_slice3 {e st : Expr} {lo hi : Option Expr} {te : TE} {tl th ts : TO} {p2 pos : Pos} {r : V → Option Int → Option Int → Option Int → Hp → VK → Prop} (hr : SlR3 X r) (he : PE X e te) (hl : PO X lo tl) (hu : PO X hi th) (hs : PO X (some st) ts) : PE X (.Subscript e (.Slice lo hi (some st) p2) pos) (tSl3 r te tl th ts) := by
  refine ⟨fun pins s σ H Q I h => ?_⟩
  refine Subscript_ (thn (he.run pins s σ H _ I h) fun v s1 ⟨x, H1, I1, r1, q1⟩ => ?_)
  refine wpAny_Slice (thn (hl.run pins s1 σ H1 _ I1 q1) fun vl s2 ⟨l, H2, I2, pl, q2⟩ => thn (hu.run pins s2 σ H2 _ I2 q2) fun vu s3 ⟨u, H3, I3, pu, q3⟩ => thn (hs.run pins s3 σ H3 _ I3 q3) fun vs s4 ⟨c, H4, I4, pc, q4⟩ => ?_)
  have I5 : Inv X pins σ H4 { s4 with heap := s4.heap.push { cls := .type "slice", data := .fields #[vl, vu, vs] } } := I4.kept (t' := s4.toks) fun b ob q => Heap.get?_push_of_some _ q
  obtain ⟨T, id, hT, ht, hg⟩ := hr pins { s4 with heap := s4.heap.push { cls := .type "slice", data := .fields #[vl, vu, vs] } } σ H4 x v vl vu vs l u c s4.heap.objs.size Q I5 r1 (Heap.IsSliceOf.new ..) pl pu pc q4
  show wpAny (model X.prog X.w) X.A (subscriptTail e (.Slice lo hi (some st) p2) v (.ref s4.heap.objs.size)) (EP X pins σ Q) X.xe { s4 with heap := s4.heap.push { cls := .type "slice", data := .fields #[vl, vu, vs] } }
  exact tail_any (ops := [v, .ref s4.heap.objs.size]) ht hT hg (by with_unfolding_all rfl)
theorem vals_get2 {xs : List V} {us : List Value} (r : Vals xs us) : ∀ j : Nat, (xs[j]? = none ∧ us[j]? = none) ∨ ∃ x u, xs[j]? = some x ∧ us[j]? = some u ∧ RelV x u := by
  induction r with
  | nil => intro j; exact .inl ⟨by simp, by simp⟩
  | cons h t ih =>
    intro j
    cases j with
    | zero => exact .inr ⟨_, _, rfl, rfl, h⟩
    | succ j => simpa using ih j
theorem vals_pick {xs : List V} {us : List Value} (r : Vals xs us) : ∀ js : List Nat, Vals (js.filterMap (xs[·]?)) (js.filterMap (us[·]?))
  | [] => .nil
  | j :: js => by
    rcases vals_get2 r j with ⟨h1, h2⟩ | ⟨x, u, h1, h2, h3⟩
    · rw [List.filterMap_cons, List.filterMap_cons, h1, h2]; exact vals_pick r js
    · rw [List.filterMap_cons, List.filterMap_cons, h1, h2]; exact .cons h3 (vals_pick r js)
theorem DqA.get2 {F : Hp} : ∀ {ds : List PyData} {vs : List V}, DqA F vs ds → ∀ j : Nat, (vs[j]? = none ∧ ds[j]? = none) ∨ ∃ x d, vs[j]? = some x ∧ ds[j]? = some d ∧ Dq F x d
  | [], _, q, j => by cases q; exact .inl ⟨by simp, by simp⟩
  | d :: ds, _, q, j => by
    cases q with
    | cons h t =>
      cases j with
      | zero => exact .inr ⟨_, _, rfl, rfl, h⟩
      | succ j => simpa using DqA.get2 t j
theorem DqA.pick {F : Hp} {vs : List V} {ds : List PyData} (r : DqA F vs ds) : ∀ js : List Nat, DqA F (js.filterMap (vs[·]?)) (js.filterMap (ds[·]?))
  | [] => .nil
  | j :: js => by
    rcases DqA.get2 r j with ⟨h1, h2⟩ | ⟨x, u, h1, h2, h3⟩
    · rw [List.filterMap_cons, List.filterMap_cons, h1, h2]; exact DqA.pick r js
    · rw [List.filterMap_cons, List.filterMap_cons, h1, h2]; exact .cons h3 (DqA.pick r js)
def rSlS3 (K : PySem.W.Frag) : V → Option Int → Option Int → Option Int → Hp → VK → Prop := fun x lo hi st H Q => ∃ a xs, x = .ref a ∧ SqL K H a xs ∧ st ≠ some 0 ∧ ∀ p, H p = none → Q (.ref p) (upd H p (.lst (stepL xs lo hi st)))
theorem sl3_list : SlR3 X (rSlS3 X.K) := by
  intro pins s σ H x v vl vu vs lo hi st sl Q I rx hs pl pu pc h
  obtain ⟨a, xs, rfl, hx, h0, q⟩ := h
  cases rx
  obtain ⟨its, r, ht, hz⟩ := I.list hx
  have hlen := r.length
  refine ⟨"list", _, slot_list_getitem.lookup, ht.isList.typeIs, ?_⟩
  refine wpAny_getItem_list_slice ht.isList hs pl pu pc h0 ?_ (by rw [List.size_toArray] <;> omega)
  have e1 : slicePick its.toArray lo hi st = (stepL its lo hi st).toArray := by
    unfold slicePick stepL
    rw [List.size_toArray]
    congr 1
    congr 1
    funext j
    simp
  have hv : Vals (stepL xs lo hi st) (stepL its lo hi st) := by
    unfold stepL
    rw [hlen]
    exact vals_pick r _
  have hle : (stepL xs lo hi st).length ≤ sizeLine := by
    rw [hv.length]
    have := slicePick_size_le its.toArray lo hi st
    rw [e1, List.size_toArray, List.size_toArray] at this
    omega
  rw [e1]
  exact ⟨.ref s.heap.objs.size, _, I.laid (t' := s.toks) (o := .lst (stepL xs lo hi st)) (fun b ob q => Heap.get?_push_of_some _ q) (Nat.le_refl _) ⟨hle, _, 0, hv, Heap.get?_push_size _ rfl⟩, rfl, q _ (I.hok.fresh (Nat.le_refl _))⟩
end
/-! ### a test of three in a chain -/
section
variable {X : Cx} {a b c d : Expr} {ta tb tc td : TE} {pos : Pos}
theorem pt_chain3 {op op' op'' : CmpOp} {r r' r'' : R2} (ho : OpR X (compareOp op) r) (ho' : OpR X (compareOp op') r') (ho'' : OpR X (compareOp op'') r'') (ha : PE X a ta) (hb : PE X b tb) (hc : PE X c tc) (hd : PE X d td)
    (hm : lastMarks [op, op', op''] [b, c, d] = false := by with_unfolding_all rfl) : PT X (.Compare a [op, op', op''] [b, c, d] pos) (tTest (tChain3 r r' r'' ta tb tc td)) := by
  refine ⟨fun pins s σ H Q I h => ?_⟩
  refine isTrue_chain (thn (ha.run pins s σ H _ I h) fun v s1 ⟨x, H1, I1, r1, q1⟩ => test_link (thn (hb.run pins s1 σ H1 _ I1 q1) fun u s2 ⟨y, H2, I2, r2, q2⟩ =>
    thn (ho pins s2 σ H2 x y v u _ I2 r1 r2 q2) fun d s3 ⟨z, H3, I3, r3, k, e, q3⟩ => ?_)) hm
  subst e
  cases r3
  refine wpAny_truthy_bool ?_
  cases k with
  | false =>
    obtain ⟨k', e', q'⟩ := q3
    cases e'
    exact ite_ff ⟨H3, I3, q'⟩
  | true =>
    refine ite_tt (test_link (thn (hc.run pins s3 σ H3 _ I3 q3) fun w' s4 ⟨z', H4, I4, r4, q4⟩ => thn (ho' pins s4 σ H4 y z' u w' _ I4 r2 r4 q4) fun d' s5 ⟨z2, H5, I5, r5, k2, e2, q5⟩ => ?_))
    subst e2
    cases r5
    refine wpAny_truthy_bool ?_
    cases k2 with
    | false =>
      obtain ⟨k', e', q'⟩ := q5
      cases e'
      exact ite_ff ⟨H5, I5, q'⟩
    | true =>
      refine ite_tt (test_last (thn (hd.run pins s5 σ H5 _ I5 q5) fun w6 s6 ⟨z6, H6, I6, r6, q6⟩ => thn (ho'' pins s6 σ H6 z' z6 w' w6 _ I6 r4 r6 q6) fun d7 s7 ⟨z7, H7, I7, r7, k7, e7, q7⟩ => ?_))
      subst e7
      cases r7
      exact wpAny_truthy_bool ⟨H7, I7, q7⟩
theorem dt_chain3 {W : WX} {f g h f4 : Ev → R PyData} {op op' op'' : CmpOp} {r r' r'' : R2} {gg gg' gg'' : PyData → PyData → R PyData} (ho : OpR X (compareOp op) r) (hg : OpD r gg) (ho' : OpR X (compareOp op') r') (hg' : OpD r' gg') (ho'' : OpR X (compareOp op'') r'') (hg'' : OpD r'' gg'')
    (ha : DB X W a f) (hb : DB X W b g) (hc : DB X W c h) (hd : DB X W d f4) (hm : lastMarks [op, op', op''] [b, c, d] = false := by with_unfolding_all rfl) : DT X W (.Compare a [op, op', op''] [b, c, d] pos) (dTest (dChain3 gg gg' gg'' f g h f4)) :=
  pre_T (pt_chain3 ho ho' ho'' ha hb hc hd hm) fun σ H Q p => tTest_run (fun Q p => dChain3_run hg hg' hg'' p) p
end
def sliceSD (d : PyData) (lo hi st : Option Int) : R PyData := match d with
  | .list xs => if st = some 0 then .bad else .ok (.list (stepL xs lo hi st))
  | _ => .bad
theorem step_vals {F : Hp} {vs : List V} {ds : List PyData} (h : DqA F vs ds) (lo hi st : Option Int) : DqA F (stepL vs lo hi st) (stepL ds lo hi st) := by
  unfold stepL
  rw [h.length]
  exact DqA.pick h _
theorem sld3 (K : PySem.W.Frag) {F H : Hp} {x : V} {d : PyData} {lo hi st : Option Int} {Q : VK} {E : Str → Prop} (fh : Same F H) (bx : Bq F H x d) (p : Post (sliceSD d lo hi st) (fun z => ∀ v F' H', Grow F H F' H' → Dq F' v z → Q v H') E) : rSlS3 K x lo hi st H Q := by
  unfold sliceSD at p
  split at p
  · obtain ⟨l, vs, rfl, h1, h2⟩ := bx.list fh
    split at p
    · exact p.elim
    · rename_i h0
      refine ⟨l, vs, rfl, .inl (.inl h1), h0, fun q nq => ?_⟩
      have g := Grow.new (o := .lst (stepL vs lo hi st)) fh nq
      exact p _ _ _ g (.lst upd_same ((step_vals h2 lo hi st).mono g.f))
  · exact p.elim
def dSlice3 (f : Ev → R PyData) (l u c : Ev → R (Option Int)) : Ev → R PyData := fun env => (f env).bind fun x => (l env).bind fun lo => (u env).bind fun hi => (c env).bind fun st => sliceSD x lo hi st
section
variable {X : Cx} {W : WX} {a : Expr} {f : Ev → R PyData} {pos p p2 : Pos} {lo hi : Option Expr} {st : Expr} {gl gu gc : Ev → R (Option Int)}
theorem de_slice3 (ha : DB X W a f) (hl : DO X W lo gl) (hu : DO X W hi gu) (hc : DO X W (some st) gc) : DE X W (.Subscript a (.Slice lo hi (some st) p2) pos) (dSlice3 f gl gu gc) :=
  pre_E (pe_slice3 sl3_list ha hl hu hc) fun σ H Q ⟨H0, F, env, rl, p⟩ => by
  refine ⟨H0, F, env, rl, (Post.bind p).mono (fun d p1 v F1 H1 g1 b1 => ?_) fun c p1 => p1⟩
  refine ⟨H0, F1, env, rl.grow g1, (Post.bind p1).mono (fun o p2 F2 H2 g2 => ?_) fun c p2 F' H' g' => p2 F' H' (g1.trans g')⟩
  have g12 := g1.trans g2
  refine ⟨H0, F2, env, rl.grow g12, (Post.bind p2).mono (fun o2 p3 F3 H3 g3 => ?_) fun c p2 F' H' g' => p2 F' H' (g12.trans g')⟩
  have g13 := g12.trans g3
  refine ⟨H0, F3, env, rl.grow g13, (Post.bind p3).mono (fun o3 p4 F4 H4 g4 => ?_) fun c p2 F' H' g' => p2 F' H' (g13.trans g')⟩
  exact sld3 _ g4.fh (((b1.grow g2).grow g3).grow g4) (p4.mono (fun z k v F' H' g' q => k v F' H' ((g13.trans g4).trans g') q) fun _ k => k)
end
end L3

namespace L3
open PySem PySem.Spec PyProof.Rows L2
/-! ### if xs.pop() == e: .. -/
def sPopIf (i : Nat) (gg : PyData → PyData → R PyData) (f : Ev → R PyData) (g h : Ev → R Out) : Ev → R Out := fun env => match sget env i with
  | .own xs => (match xs.getLast? with
    | some d => (f (env.set i (.own xs.dropLast))).bind fun y => (gg d y).bind fun z => (asBool z).bind fun k => if k = true then g (env.set i (.own xs.dropLast)) else h (env.set i (.own xs.dropLast))
    | none => .bad)
  | _ => .bad
theorem DqA.last {F : Hp} : ∀ {vs : List V} {ds : List PyData} {d : PyData}, DqA F vs ds → ds.getLast? = some d → ∃ v, vs[vs.length - 1]? = some v ∧ Dq F v d ∧ DqA F vs.dropLast ds.dropLast
  | _, [], _, q, h => by cases h
  | _, [d], e, q, h => by
    cases q with
    | cons a b =>
      cases b
      cases h
      exact ⟨_, rfl, a, .nil⟩
  | _, d :: d2 :: r, e, q, h => by
    cases q with
    | cons a b =>
      cases b with
      | cons b c =>
        obtain ⟨v, h1, h2, h3⟩ := DqA.last (.cons b c) (d := e) (by rw [List.getLast?_cons_cons] at h; exact h)
        exact ⟨v, by simpa using h1, h2, .cons a h3⟩
section
variable {X : Cx} {W : WX} {b : Expr} {f : Ev → R PyData} {pos p cpos apos pos2 : Pos} {g h : Ev → R Out} {ss ss' : List Stmt} {x : Str}
theorem ds_popIf {op : CmpOp} {r : R2} {gg : PyData → PyData → R PyData} (i : Nat) (ho : OpR X (compareOp op) r) (hg : OpD r gg) (hb : DB X W b f) (ha : DSs X W ss g) (hz : DSs X W ss' h)
    (hN : X.N[i]? = some x := by rfl) (hv : Vis X.env.scope x := by first | exact Or.inl rfl | exact Or.inr (Or.inl rfl) | exact Or.inr (Or.inr rfl)) (hd : (x == ("__debug__" : Str)) = false := by decide) (hcd : (x == ("__classdict__" : Str)) = false := by decide)
    (hbase : attributeBase (.Name x p) "pop" X.env (eval (.Name x p) X.env) = eval (.Name x p) X.env := by rfl) (hline : (apos.endLine == cpos.line) = true := by rfl) (hm : behindInMarks op b = false := by rfl) :
    DS X W (.If (.Compare (.Call (.Attribute (.Name x p) "pop" apos) [] [] cpos) [op] [b] pos2) ss ss' pos) (sPopIf i gg f g h) :=
  pre_S (ps_if (pt_cmpR ho (pe_bm0 PySem.F.plainAttrs_list PySem.F.slot_list_pop PySem.F.type_list_pop mt_pop (pe_var hN hv hd hcd) hbase hline) hb hm) ha hz) fun D σ H ⟨F0, H0, F, env, gr, rl, p⟩ => by
  unfold sPopIf at p
  cases z : sget env i with
  | own xs =>
    rw [z] at p
    dsimp only at p
    cases y : xs.getLast? with
    | none => rw [y] at p; exact p.elim
    | some d =>
      rw [y] at p
      obtain ⟨l, vs, e1, h0, fl, hl, q⟩ := rl.own z
      obtain ⟨v, q1, q2, q3⟩ := DqA.last q y
      obtain ⟨a1, a2⟩ := own_upd gr rl z e1 h0 fl q3
      refine ⟨_, e1, .inl ⟨rfl, vs, .inl (.inl hl)⟩, l, vs, v, rfl, rfl, hl, q1, ?_⟩
      dsimp only at p
      have gl : Dq F v d := q2
      refine ⟨H0, F, _, a2, (Post.bind p).mono (fun e2 p2 v2 F2 H2 g2 b2 => ?_) fun c k => excOn a1 k⟩
      have g12 := a1.on g2
      refine hg F2 H2 v v2 d e2 _ (ExcP X.mg W F0 H0) g2.fh (.inl (gl.mono g2.f)) b2 ((Post.bind p2).mono (fun y p3 v3 F3 H3 g3 b3 => ?_) fun c k => k)
      have g13 := g12.on g3
      cases y <;> first | exact p3.elim | skip
      rename_i kk
      cases b3
      refine ⟨kk, rfl, ?_⟩
      have rl3 := (a2.grow g2).grow g3
      cases kk with
      | true => exact iteT ⟨F0, H0, F3, _, g13, rl3, p3⟩
      | false => exact iteF ⟨F0, H0, F3, _, g13, rl3, p3⟩
  | val _ => rw [z] at p; exact p.elim
  | emp => rw [z] at p; exact p.elim
  | scr _ => rw [z] at p; exact p.elim
  | exc _ => rw [z] at p; exact p.elim
  | big _ => rw [z] at p; exact p.elim
  | slf _ => rw [z] at p; exact p.elim
  | bor _ => rw [z] at p; exact p.elim
end
end L3

namespace L3
open PySem PySem.Spec PyProof.Rows L2
/-! ### xs[i] = v of an own list -/
def sSetIx (i : Nat) (fi fv : Ev → R PyData) : Ev → R Out := fun env => (fv env).bind fun v => match sget env i with
  | .own xs => (fi env).bind fun y => (asInt y).bind fun k => (opt (ixN xs.length k)).bind fun j => .ok (.nx (env.set i (.own (xs.set j v))))
  | _ => .bad
theorem DqA.set {F : Hp} {v : V} {d : PyData} (h : Dq F v d) : ∀ {vs : List V} {ds : List PyData} (j : Nat), DqA F vs ds → DqA F (vs.set j v) (ds.set j d)
  | _, [], _, q => by cases q; exact .nil
  | _, e :: es, j, q => by
    cases q with
    | cons a b =>
      cases j with
      | zero => exact .cons h b
      | succ j => exact .cons a (DqA.set h j b)
theorem own_none {F H F1 H1 : Hp} {l : Addr} {o : HO} (g : Grow F H F1 H1) (fl : F l = none) (hl : H l = some o) : F1 l = none := by
  cases k : F1 l with
  | none => rfl
  | some o =>
    rcases g.nw l o k with k | k
    · rw [fl] at k; cases k
    · rw [hl] at k; cases k
section
variable {X : Cx} {W : WX} {b e : Expr} {f g : Ev → R PyData} {pos p pos2 : Pos} {x : Str}
theorem ds_setIx (i : Nat) (hv : DE X W e g) (hi : DE X W b f) (hN : X.N[i]? = some x := by rfl) (hvs : Vis X.env.scope x := by first | exact Or.inl rfl | exact Or.inr (Or.inl rfl) | exact Or.inr (Or.inr rfl)) (hd : (x == ("__debug__" : Str)) = false := by decide) (hcd : (x == ("__classdict__" : Str)) = false := by decide)
    (ha : ∀ v, assign (.Subscript (.Name x p) b pos2) X.env v = (do
      let ov ← holding [v] (eval (.Name x p) X.env)
      let iv ← holding [v, ov] (eval b X.env)
      standAt pos2
      holding [v, ov, iv] (setItem ov iv v)
      release [v, ov, iv] []) := by intro _; rfl)
    (hs : swapsWithSole [.Subscript (.Name x p) b pos2] e pos.line X.env = pure false := by rfl) (hw : swappedStores [.Subscript (.Name x p) b pos2] e X.env = pure none := by rfl)
    (h1 : (assignEach [.Subscript (.Name x p) b pos2] X.env).map (·.2) = [assign (.Subscript (.Name x p) b pos2) X.env] := by rfl) : DS X W (.Assign [.Subscript (.Name x p) b pos2] e pos) (sSetIx i f g) :=
  pre_S (ps_asg hv (pg_sub (pe_var hN hvs hd hcd) hi set_list ha) hs hw h1) fun D σ H ⟨F0, H0, F, env, gr, rl, p⟩ => by
  refine ⟨H0, F, env, rl, (Post.bind p).mono (fun d p1 v F1 H1 g1 qd => ?_) fun c k => excOn gr k⟩
  cases z : sget env i with
  | own xs =>
    rw [z] at p1
    obtain ⟨l, vs, e1, h0, fl, hl, q⟩ := rl.own z
    refine ⟨_, e1, H0, F1, env, rl.grow g1, (Post.bind p1).mono (fun y p2 u F2 H2 g2 qu => ?_) fun c k => excOn (gr.on g1) k⟩
    cases y <;> first | exact p2.elim | skip
    rename_i k
    cases qu
    have p2 : Post ((opt (ixN xs.length k)).bind fun j => R.ok (Out.nx (env.set i (.own (xs.set j d))))) _ _ := p2
    cases hj : ixN xs.length k with
    | none => rw [hj] at p2; exact p2.elim
    | some j =>
      rw [hj] at p2
      have g12 := g1.trans g2
      obtain ⟨a1, a2⟩ := own_upd (gr.on g12) (rl.grow g12) z e1 h0 (own_none g12 fl hl) (DqA.set (qd.mono g2.f) j (q.mono g12.f))
      exact ⟨l, vs, k, j, rfl, rfl, g12.h _ _ hl, by rw [q.length]; exact hj, p2 σ F2 _ a1 a2⟩
  | val _ => rw [z] at p1; exact p1.elim
  | emp => rw [z] at p1; exact p1.elim
  | scr _ => rw [z] at p1; exact p1.elim
  | exc _ => rw [z] at p1; exact p1.elim
  | big _ => rw [z] at p1; exact p1.elim
  | slf _ => rw [z] at p1; exact p1.elim
  | bor _ => rw [z] at p1; exact p1.elim
end
/-! ### xs = [.. for ..], the list the frame's own -/
theorem lc_postO {K : PySem.W.Frag} {g : PyData → Ev → R Ev} {t : Ev → R Bool} {f : Ev → R PyData} {own : List Nat} {mg : Str → Option Value}
    {J : It} {xs : List PyData} {env : Ev} {σ : L2.St} {H0 : G0} {F1 H1 : Hp} {D : Addr} {Q : VK} {E : Str → Prop} (hx : xs.length ≤ BIG) (rl : Rl K mg H0 env σ F1 H1) (w : WalkD J xs F1) (nD : H1 D = none)
    (p : Post (lcR g t f (wipeE env own) xs) (fun r => ∀ accV F' H', (Same F1 F' ∧ Same H1 H' ∧ Same F' H' ∧ ∀ a o, F' a = some o → F1 a = some o ∨ H1 a = none) → F' D = none → H' D = some (.lst accV) → DqA F' accV r → Q (.ref D) H') E)
    (hE : ∀ c, ¬ E c) :
    ∃ W : Nat → Nat → Hp → Prop, (∃ m, W 0 m (upd H1 D (.lst []))) ∧ ∀ i m H, W i m H →
      (J.stop i H ∧ Q (.ref D) H) ∨ (J.go i H ∧ ∃ Nx : Hp → Prop, (∀ H', Nx H' → ∃ m', m' < m ∧ W (i + 1) m' H') ∧ ∀ x H', J.yld i H x H' → tDG K mg own g x (wipe σ own) H' fun σ2 H2 => wipe σ2 own = wipe σ own ∧ tDT K mg W0 t σ2 H2 fun b H3 =>
        if b = true then tD K mg W0 f σ2 H3 fun y H4 => ∃ acc, H4 D = some (.lst acc) ∧ acc.length < sizeLine ∧ Nx (upd H4 D (.lst (acc ++ [y]))) else Nx H3) := by
  let Pv : Nat → Hp → Prop := fun i H => ∃ F accV accD, Grow F1 H1 F H ∧ F D = none ∧ H D = some (.lst accV) ∧ DqA F accV accD ∧ accD.length ≤ i ∧
    Post (lcR g t f (wipeE env own) (xs.drop i)) (fun r => ∀ accV F' H', (Same F1 F' ∧ Same H1 H' ∧ Same F' H' ∧ ∀ a o, F' a = some o → F1 a = some o ∨ H1 a = none) → F' D = none → H' D = some (.lst accV) → DqA F' accV (accD ++ r) → Q (.ref D) H') E
  refine ⟨fun i m H => m = xs.length - i ∧ i ≤ xs.length ∧ Pv i H, ⟨xs.length, by simp, Nat.zero_le _, F1, [], [], ?_, ?_, upd_same, .nil, Nat.zero_le _, ?_⟩, ?_⟩
  · have hu : Same H1 (upd H1 D (.lst [])) := same_upd (Same.refl _) nD
    exact ⟨Same.refl _, hu, rl.fh.trans hu, fun _ _ z => .inl z⟩
  · exact rl.fh.free nD
  · rw [List.drop_zero]
    exact p
  · rintro i m H ⟨rfl, hi, F, accV, accD, gr, fD, hD, qa, hal, pp⟩
    by_cases hlt : i < xs.length
    · refine .inr ⟨w.goes i H hlt (gr.f.trans gr.fh), Pv (i + 1), fun H' p' => ⟨xs.length - (i + 1), by omega, rfl, hlt, p'⟩, fun x H' y => ?_⟩
      have hxi : xs[i]? = some xs[i] := List.getElem?_eq_getElem hlt
      obtain ⟨F', g', q'⟩ := w.yields i xs[i] F H x H' hxi gr.f gr.fh y
      rw [List.drop_eq_getElem_cons hlt] at pp
      have g1' := gr.trans g'
      refine ⟨H0, F', wipeE env own, xs[i], (rl.wipe own).grow g1', q', (Post.bind pp).mono (fun e p1 σ2 rl2 w2 => ⟨w2.trans (wipe_wipe own fun _ h => h), ?_⟩) fun c k => (hE c k).elim⟩
      refine ⟨H0, F', e, rl2, (Post.bind p1).mono (fun b p2 F3 H3 g3 => ?_) fun c k => (hE c k).elim⟩
      have nF : ∀ {F4 H4 : Hp}, Grow F H F4 H4 → F4 D = none := fun {F4 H4} g4 => own_none g4 fD hD
      cases b with
      | false =>
        have g3' := g'.trans g3
        exact iteF ⟨F3, accV, accD, gr.trans g3', nF g3', g3'.h _ _ hD, qa.mono g3'.f, by omega, p2⟩
      | true =>
        refine iteT ⟨H0, F3, e, rl2.grow g3, (Post.bind (show Post ((f e).bind fun d => (lcR g t f (wipeE env own) (xs.drop (i + 1))).bind fun r => R.ok (d :: r)) _ _ from p2)).mono (fun d p3 v F4 H4 g4 q4 => ?_) fun c k => (hE c k).elim⟩
        have g4' := (g'.trans g3).trans g4
        have gg := gr.trans g4'
        refine ⟨accV, g4'.h _ _ hD, by rw [qa.length]; exact big_lt (by omega), F4, accV ++ [v], accD ++ [d], ⟨gg.f, fun b o z => ?_, fun b o z => ?_, gg.nw⟩, nF g4', upd_same, (qa.mono g4'.f).append (.cons q4 .nil), by rw [List.length_append, List.length_singleton]; omega, ?_⟩
        · rw [upd_ne (ne_of_none z nD)]; exact gg.h b o z
        · rw [upd_ne (ne_of_none z (nF g4'))]; exact gg.fh b o z
        · refine (Post.bind p3).mono (fun r k => ?_) fun _ z => z
          rw [List.append_assoc]
          exact k
    · have e : i = xs.length := by omega
      subst e
      refine .inl ⟨w.stops H (gr.f.trans gr.fh), ?_⟩
      rw [List.drop_length] at pp
      have pp : ∀ accV F' H', (Same F1 F' ∧ Same H1 H' ∧ Same F' H' ∧ ∀ a o, F' a = some o → F1 a = some o ∨ H1 a = none) → F' D = none → H' D = some (.lst accV) → DqA F' accV (accD ++ []) → Q (.ref D) H' := pp
      rw [List.append_nil] at pp
      exact pp accV F H ⟨gr.f, gr.h, gr.fh, gr.nw⟩ fD hD qa
theorem Rl.set_at {K : PySem.W.Frag} {mg : Mg} {H0 : G0} {env : Ev} {σ : L2.St} {F H : Hp} (r : Rl K mg H0 env σ F H) (i : Nat) {p : Addr} {vs : List V} {xs : List PyData} (h0 : H0 p = none) (fp : F p = none) (hp : H p = some (.lst vs)) (q : DqA F vs xs)
    (nop : ∀ (j : Nat) (t : Sl) (u : Option V), env[j]? = some t → σ[j]? = some u → ¬ InFp H t u p) : Rl K mg H0 (env.set i (.own xs)) (σ.set i (some (.ref p))) F H :=
  r.put i (Same.refl _) r.fh (fun x o e _ => e) (fun j t u x _ h1 h2 z => ((r.sl j t u h1 h2).part z).2.1) ⟨p, vs, rfl, h0, fp, hp, q⟩ fun j t u x _ h1 h2 z z' => by
    cases (show x = p from z')
    exact nop j t u h1 h2 z
def sOwnLc (i : Nat) (it : Ev → R (List PyData)) (g : PyData → Ev → R Ev) (t : Ev → R Bool) (f : Ev → R PyData) (vs : List Nat) : Ev → R Out := fun env => (it env).bind fun xs =>
  if xs.length ≤ BIG then (noexc (lcR g t f (wipeE env vs) xs)).bind fun r => .ok (.nx (env.set i (.own r))) else .bad
section
variable {X : Cx} {W : WX} {pos spos pos' : Pos} {x : Str} {t : Ev → R Bool}
theorem ds_ownLc {tg iter elt : Expr} {ifs : List Expr} {scope : Scope} {own : List (Str × Nat)} {it : Ev → R (List PyData)} {gg : PyData → Ev → R Ev} {f : Ev → R PyData} (i : Nat) (hc : X.calm = true) (hN : X.N.Nodup) (hi : DI X W tg iter it) (ok : BlkOk X.N X.env.scope scope own)
    (hg : ∀ (s : Shared) (H : Hp) (C : Addr) (cl : List (Str × Addr)) (fp : List Addr), DG (X.blk s H scope (compEnvC scope cl C X.env) fp) (own.map (·.2)) tg gg) (ht : ∀ (s : Shared) (H : Hp) (C : Addr) (cl : List (Str × Addr)) (fp : List Addr), DTs (X.blk s H scope (compEnvC scope cl C X.env) fp) W0 ifs t)
    (he : ∀ (s : Shared) (H : Hp) (C : Addr) (cl : List (Str × Addr)) (fp : List Addr), DE (X.blk s H scope (compEnvC scope cl C X.env) fp) W0 elt f)
    (hsw : swapsWith (.ListComp elt [⟨tg, iter, ifs, 0⟩] scope pos) (some (.Name x pos')) spos.line X.env = pure true) (hy : X.N[i]? = some x := by rfl) (hyl : X.env.scope.names.lookup x = some .local := by rfl) (hs : ∀ x, foldedSetIterable iter X.env x = pure x := by intro _; rfl) :
    DS X W (.Assign [.Name x pos'] (.ListComp elt [⟨tg, iter, ifs, 0⟩] scope pos) spos) (sOwnLc i it gg t f (own.map (·.2))) :=
  pre_S (ps_setLc (g := tDG X.K X.mg (own.map (fun (x : Str × Nat) => x.2)) gg) (tt := tDT X.K X.mg W0 t) (te := tD X.K X.mg W0 f) hc hN hy hyl hsw hi ok hg ht he hs) fun D σ H ⟨F0, H0, F, env, gr, rl, p⟩ => by
  refine ⟨H0, F, env, rl, (Post.bind p).mono (fun xs p1 J F1 H1 g1 w Dd nD => ?_) fun c k => excOn gr k⟩
  split at p1
  · rename_i hh
    have gg1 := gr.on g1
    have rl1 := rl.grow g1
    have p2 : Post (noexc (lcR gg t f (wipeE env (own.map (·.2))) xs)) _ _ := Post.bind p1
    refine lc_postO (mg := X.mg) (Q := fun x H1 => gName i x σ H1 D.nx) hh rl1 w nD ((noexc_post p2).mono (fun r k accV F' H' ⟨s1, s2, s3, s4⟩ fD hD q => ?_) fun _ z => z) fun _ z => z
    have g' : Grow F1 H1 F' H' := ⟨s1, s2, s3, s4⟩
    refine k _ F' H' (gg1.trans g') ((rl1.grow g').set_at i (gg1.h.free nD) fD hD q fun j t u h1 h2 z => ?_)
    exact rl1.apart h1 h2 (InFp.back (rl1.sl j t u h1 h2) (fun x o _ e => g'.h x o e) z) nD
  · exact p1.elim
theorem ds_ownLcC {tg iter elt : Expr} {ifs : List Expr} {scope : Scope} {own : List (Str × Nat)} {it : Ev → R (List PyData)} {gg : PyData → Ev → R Ev} {f : Ev → R PyData} (i : Nat) (hc : X.calm = true) (hN : X.N.Nodup) (hi : DI X W tg iter it) (ok : BlkOk X.N X.env.scope scope own)
    (hg : ∀ (s : Shared) (H : Hp) (C : Addr) (cl : List (Str × Addr)) (fp : List Addr), DG (X.blk s H scope (compEnvC scope cl C X.env) fp) (own.map (·.2)) tg gg) (ht : ∀ (s : Shared) (H : Hp) (C : Addr) (cl : List (Str × Addr)) (fp : List Addr), DTs (X.blk s H scope (compEnvC scope cl C X.env) fp) W0 ifs t)
    (he : ∀ (s : Shared) (H : Hp) (C : Addr) (cl : List (Str × Addr)) (fp : List Addr), DE (X.blk s H scope (compEnvC scope cl C X.env) fp) W0 elt f)
    (hy : X.N[i]? = some x := by rfl) (hx : L2.Loc X.env.scope x := by first | exact Or.inl rfl | exact Or.inr rfl) (hsw : swapsWith (.ListComp elt [⟨tg, iter, ifs, 0⟩] scope pos) (some (.Name x pos')) spos.line X.env = pure false := by rfl)
    (hf : X.fn x = true ∨ X.env.scope.names.lookup x = some .local := by first | exact .inl rfl | exact .inr rfl) (hs : ∀ x, foldedSetIterable iter X.env x = pure x := by intro _; rfl) :
    DS X W (.Assign [.Name x pos'] (.ListComp elt [⟨tg, iter, ifs, 0⟩] scope pos) spos) (sOwnLc i it gg t f (own.map (·.2))) :=
  pre_S (ps_set hN hy hx (pe_lc (g := tDG X.K X.mg (own.map (fun (x : Str × Nat) => x.2)) gg) (tt := tDT X.K X.mg W0 t) (te := tD X.K X.mg W0 f) hc hN hi ok hg ht he hs) hsw hf) fun D σ H ⟨F0, H0, F, env, gr, rl, p⟩ => by
  refine ⟨H0, F, env, rl, (Post.bind p).mono (fun xs p1 J F1 H1 g1 w Dd nD => ?_) fun c k => excOn gr k⟩
  split at p1
  · rename_i hh
    have gg1 := gr.on g1
    have rl1 := rl.grow g1
    have p2 : Post (noexc (lcR gg t f (wipeE env (own.map (·.2))) xs)) _ _ := Post.bind p1
    refine lc_postO (mg := X.mg) (Q := fun x H1 => gName i x σ H1 D.nx) hh rl1 w nD ((noexc_post p2).mono (fun r k accV F' H' ⟨s1, s2, s3, s4⟩ fD hD q => ?_) fun _ z => z) fun _ z => z
    have g' : Grow F1 H1 F' H' := ⟨s1, s2, s3, s4⟩
    refine k _ F' H' (gg1.trans g') ((rl1.grow g').set_at i (gg1.h.free nD) fD hD q fun j t u h1 h2 z => ?_)
    exact rl1.apart h1 h2 (InFp.back (rl1.sl j t u h1 h2) (fun x o _ e => g'.h x o e) z) nD
  · exact p1.elim
end
end L3

namespace L3
open PySem PySem.Spec PyProof.Rows L2

/-! ### an exception that is kept -/
section
variable {X : Cx} {pins : List (Addr × Obj)} {σ : L2.St} {H : Hp} {s : Shared}
/-- an untracked record that stands apart is tracked -/
theorem track {a : Addr} {cls : Value} {oe : Obj} {vs : Array Value} (I : Inv X pins σ H s) (ha : s.heap.get? a = some oe) (hc : oe.cls = cls) (hdi : oe.dict = none) (hd : oe.data = .fields vs) (na : H a = none)
    (nL : a ≠ X.env.locals) (n0 : X.s_0.heap.get? a = none) (np : ∀ p ∈ X.pn ++ pins, p.1 ≠ a) : Inv X pins σ (upd H a (IsExc a cls)) s := by
  have ne : ∀ b o, H b = some o → b ≠ a := fun b o e z => by subst z; rw [na] at e; cases e
  have nz : ∀ b o, X.s_0.heap.get? b = some o → b ≠ a := fun b o e z => by subst z; rw [n0] at e; cases e
  refine ⟨I.ok, I.os, I.bare, ⟨I.base.keep, I.base.slot, fun b o e n hx => ?_, I.base.there, fun b xs e => ?_, fun b o u e => ?_, fun b ps e => ?_⟩, I.loc, I.cell, ?_, fun y c e => ?_, fun p hp => ?_, fun b o e => ?_, I.len⟩
  · rw [upd_ne (nz b o e)]; exact I.base.free b o e n hx
  · have := I.base.tups b xs e
    rw [upd_ne (ne b _ this)]; exact this
  · have := I.base.frzs b o u e
    rw [upd_ne (ne b _ this)]; exact this
  · obtain ⟨m, this⟩ := I.base.tbls b ps e
    exact ⟨m, by rw [upd_ne (ne b _ this)]; exact this⟩
  · rw [upd_ne (Ne.symm nL)]; exact I.free
  · have nc : c ≠ a := fun z => by
      obtain ⟨v, o, ho, hdd⟩ := I.cell y c e
      rw [z, ha] at ho; cases ho; rw [hd] at hdd; cases hdd
    rw [upd_ne nc]; exact I.freeC y c e
  · obtain ⟨e, n, nl, nf, d⟩ := I.pin p hp
    exact ⟨e, by rw [upd_ne (np p hp)]; exact n, nl, nf, d⟩
  · by_cases hb : b = a
    · subst hb
      rw [upd_same] at e; cases e
      refine ⟨⟨oe, vs, ha, hc, hdi, hd⟩, ⟨oe, ha⟩, fun h1 h2 ⟨o, ws, h3, h4, h5, h6⟩ k => ⟨o, ws, k o h3, h4, h5, h6⟩⟩
    · rw [upd_ne hb] at e
      exact (I.hok b o e).stay (fun _ _ _ q => q) (fun c q => by rw [upd_ne (ne c _ q)]; exact q) fun c xs q => by rw [upd_ne (ne c _ q)]; exact q
theorem suite0 (I : Inv X pins σ H s) (a : Addr) : Inv (X.suite a (X.pn ++ pins)) [] σ H s :=
  ⟨I.ok.suite _ _, I.os, I.bare, I.base, I.loc, I.cell, I.free, I.freeC, fun p hp => I.pin p (by have hp' : p ∈ (X.pn ++ pins) ++ [] := hp; rwa [List.append_nil] at hp'), I.hok, I.len⟩
theorem unsuite0 {a : Addr} {pn' : List (Addr × Obj)} (I : Inv (X.suite a (X.pn ++ pins)) pn' σ H s) (ok : X.Ok) : Inv X pins σ H s :=
  ⟨ok, I.os, I.bare, I.base, I.loc, I.cell, I.free, I.freeC, fun p hp => I.pin p (List.mem_append_left _ hp), I.hok, I.len⟩
end
/-- what the clause wishes: the exception stands on as a thing of its own -/
def wKeep (K : PySem.W.Frag) (n : Nat) (c : Value) (i : Nat) (ts : TS) (Wout : WX) (D : Ends) : WX := fun cls d σ H => σ.length = n → d = none ∧
  ∃ b, PySem.W.exmOne K cls c = some b ∧ (b = true → ∀ a, H a = none → ts { nx := fun σ' H' => D.nx (σ'.set i none) H', rt := D.rt, bk := fun σ' H' => D.bk (σ'.set i none) H', ct := fun σ' H' => D.ct (σ'.set i none) H' } (σ.set i (some (.ref a))) (upd H a (IsExc a cls))) ∧
    (b = false → Wout cls d σ H)
section
variable {X : Cx} {x n : Str} {c : Value} {i : Nat} {body suite : List Stmt} {b₀ : Stmt} {np pos pos' : Pos} {tb : WX → TS} {ts : Value → TS} {Wout : WX}
/-- as L2.ps_try_as; the exception is tracked -/
theorem ps_try_keep (hs : X.stack = X.env :: X.outer) (hf : X.env.frame = some X.env.locals) (hex : X.ex = []) (hN : X.N.Nodup) (hi : X.N[i]? = some n) (hln : X.env.kindOf n = some .local) (hc : Names X x c) (tk : Takes X Wout)
    (hb : ∀ (W : WX) (pn : List (Addr × Obj)) (xe : Value → Shared → Prop), Takes (X.tr pn xe) W → PassesOwn (model X.prog X.w) X.A X.env xe → PSs (X.tr pn xe) body (tb W))
    (hsu : ∀ (a : Addr) (cls : Value) (pn : List (Addr × Obj)), PSs (X.suite a pn) (b₀ :: suite) (ts cls)) :
    PS X (.Try body [.ExceptHandler (some (.Name x np)) (some n) (b₀ :: suite) pos'] [] [] pos) (fun D σ H => σ.length = X.N.length → tb (fun cls d σ H => wKeep X.K X.N.length c i (ts cls) Wout D cls d σ H) D σ H) := by
  refine ⟨fun pins s σ H D I h => ?_⟩
  have h := h I.len
  have ok := I.ok
  have hfr : X.A.frames = some (X.env :: X.outer) := by rw [ok.frames, hs]
  have hloc : L2.Loc X.env.scope n := .inl hln
  refine wpAny_Try_except ?_
  refine wpAny_mono ((hb (fun cls d σ H => wKeep X.K X.N.length c i (ts cls) Wout D cls d σ H) (X.pn ++ pins) (fun e s₁ => wpAny (model X.prog X.w) X.A (noteFrame e X.env) (fun _ s₂ => wpAny (model X.prog X.w) X.A (setFlight e none) (fun _ s₃ =>
    wpAny (model X.prog X.w) X.A (handleBy e X.env [.ExceptHandler (some (.Name x np)) (some n) (b₀ :: suite) pos']) (SP X pins D) X.xe s₃) X.xe s₂) X.xe s₁) (fun u s' xx => ?_) PassesOwn.looking).run [] s σ H D (I.toTry _) h) (fun f s1 hsp => ?_) (fun e s1 he => he)
  · obtain ⟨a, B, sI, pins', σ', H', cls, d, rfl, J', nb, up, sky, na, os, ag, wk⟩ := xx
    have J : Inv X pins σ' H' sI := J'.ofTry ok
    obtain ⟨d0, b, hb1, hyes, hno⟩ := wk J.len
    subst d0
    have sky' : Sky B (X.env :: X.outer) a (Zc cls none) X.env.locals s'.heap := by rw [← hs]; exact sky
    show wpAny (model X.prog X.w) X.A (noteFrame (.ref a) X.env) _ _ _
    refine Sky.land Zc.steady hfr hf sky' fun h3 fl3 up3 => ?_
    have J3 : Inv X pins σ' H' { s' with heap := h3 } := J.landed nb fl3.1 (up.trans up3) os ag
    obtain ⟨oe3, vs3, he3, hz3, hd3⟩ := fl3.there
    have notFr : ∀ {h : Heap} {o : Obj} {vs : Array Value}, h.FunFrames B (X.env :: X.outer) → h.get? a = some o → o.data = .fields vs → a ∉ frs (X.env :: X.outer) := fun {h o vs} ff e dd hm => by
      obtain ⟨_, o', e', hnf⟩ := ff.mem hm
      rw [e] at e'; cases e'
      exact hnf _ dd
    have nfr := notFr fl3.2.2.1 he3 hd3
    have nL : a ≠ X.env.locals := fun z => nfr (List.mem_filterMap.mpr ⟨X.env, List.mem_cons_self, by rw [hf, z]⟩)
    have nF : a ∉ X.fs := fun hm => by
      obtain ⟨e, he, q⟩ := List.mem_filterMap.mp hm
      exact nfr (List.mem_filterMap.mpr ⟨e, List.mem_cons_of_mem _ he, q⟩)
    have nI : ∀ o, sI.heap.get? a ≠ some o := fun o e => by
      have := nb a o e (by rw [hs]; exact nfr)
      rw [fl3.2.1] at this; cases this
    have n0 : X.s_0.heap.get? a = none := by
      cases e : X.s_0.heap.get? a with
      | none => rfl
      | some o =>
        obtain ⟨o', e'⟩ := J.base.there a o e (by rw [hex]; exact fun z => by cases z)
        exact absurd e' (nI o')
    have npn : ∀ p ∈ X.pn ++ pins, p.1 ≠ a := fun p hp z => by
      have := (J.pin p hp).1
      rw [z] at this
      exact nI _ this
    have S3 := J3.suite he3 hd3 na nL nF
    refine wpAny_handleBy_cons (codeAny_handlers_test ?_) (by intro q; cases q)
    have LT : PySem.W.Looks (model X.prog X.w) h3 (typeOf (.ref a)) cls := fun A Q E s k q => wpAny_typeOf_ref (k _ _ he3) (by rw [hz3.1]; exact q)
    have LM := PySem.W.exm_one (M := model X.prog X.w) (J3.kIn) LT hb1
    have test : ∀ {Q : Value → Shared → Prop} {E : Value → Shared → Prop}, Q c { s' with heap := h3 } → wpAny (model X.prog X.w) (X.A.mark (some (.ref a))) (eval (.Name x np) X.env) Q E { s' with heap := h3 } := fun {Q E} q => by
      obtain ⟨hg, hdbg, hm | ⟨hm, hv, hnn⟩⟩ := hc
      · exact ld_glob (X := X.suite a ((a, oe3) :: (X.pn ++ pins))) S3 hg hm q hdbg
      · exact ld_blt (X := X.suite a ((a, oe3) :: (X.pn ++ pins))) S3 hg hm hv q hnn hdbg
    refine test (LM.here ?_)
    cases b with
    | true =>
      refine codeAny_handlers_suite_as ?_
      refine HandSPX.lands_againZ fl3 fun h4 fl4 up4 => ?_
      have J4 : Inv X pins σ' H' { s' with heap := h4 } := J.landed nb fl4.1 ((up.trans up3).trans up4) os ag
      obtain ⟨oe4, vs4, he4, hz4, hd4⟩ := fl4.there
      have S4 := suite0 (track J4 he4 hz4.1 hz4.2 hd4 na nL n0 npn) a
      refine store_ok (X := X.suite a (X.pn ++ pins)) (v := .ref a) S4 hN hi hloc rfl (fun s5 S5 => ?_) (.inr hln)
      refine wpAny_mono ((hsu a cls (X.pn ++ pins)).run [] s5 _ _ _ S5 (hyes rfl a na)) (fun f s6 hsp => ?_) (fun _ _ z => False.elim z)
      have end_ : ∀ {σ6 : L2.St} {H6 : Hp} {Q : Shared → Prop}, Inv (X.suite a (X.pn ++ pins)) [] σ6 H6 s6 → (∀ s7, Inv X pins (σ6.set i none) H6 s7 → Q s7) →
          wpAny (model X.prog X.w) X.A (do bindName X.env n .none; unbindBehindTheSuite X.env n pos') (fun _ s7 => Q s7) X.xe s6 := fun {σ6 H6 Q} S6 hq => gone_ok (unsuite0 S6 ok) hN hi hln hq
      cases f with
      | next =>
        obtain ⟨σ6, H6, S6, q6⟩ := hsp
        exact end_ S6 fun s7 J7 => ⟨_, _, J7, q6⟩
      | brk =>
        obtain ⟨σ6, H6, S6, q6⟩ := hsp
        exact end_ S6 fun s7 J7 => ⟨_, _, J7, q6⟩
      | cont =>
        obtain ⟨σ6, H6, S6, q6⟩ := hsp
        exact end_ S6 fun s7 J7 => ⟨_, _, J7, q6⟩
      | ret u =>
        obtain ⟨v6, σ6, H6, S6, r6, q6⟩ := hsp
        exact end_ S6 fun s7 J7 => ⟨_, _, _, J7, r6, q6⟩
    | false =>
      show wpAny _ X.A (handleBy (.ref a) X.env []) _ _ _
      refine wpAny_handleBy_nil ?_
      obtain ⟨k1, k2, k3, oe, vs, T, oT, ts', he, hz, hd, h1, hr⟩ := id fl3
      unfold PySem.passOn
      refine wpAny_bind (wpAny_field he hd h1 ?_)
      rw [if_neg (show ¬ ((Value.ref T == Value.none) = true) from by simp)]
      have fin : wpAny (model X.prog X.w) X.A (setFlight (.ref a) X.env.frame) (fun _ s4 => wpAny (model X.prog X.w) X.A (throw (.ref a) : Sem Flow) (SP X pins D) X.xe s4) X.xe { s' with heap := h3 } := by
        rw [hf]
        refine HandSPX.setFlight_upZ fl3 fun h4 hh4 up4 => wpAny_throw (tk _ _ ?_)
        exact ⟨a, B, sI, pins, σ', H', cls, none, rfl, J, nb, (up.trans up3).trans up4, .inr (.inr (by rw [hs]; exact hh4)), na, os, ag, hno rfl⟩
      first
        | exact wpAny_bind (wpAny_pure (wpAny_bind fin))
        | exact wpAny_bind fin
  · cases f with
    | next =>
      obtain ⟨σ', H', J', q⟩ := hsp
      exact wpAny_execs_nil ⟨σ', H', J'.ofTry ok, q⟩
    | brk =>
      obtain ⟨σ', H', J', q⟩ := hsp
      exact ⟨σ', H', J'.ofTry ok, q⟩
    | cont =>
      obtain ⟨σ', H', J', q⟩ := hsp
      exact ⟨σ', H', J'.ofTry ok, q⟩
    | ret u =>
      obtain ⟨v, σ', H', J', r, q⟩ := hsp
      exact ⟨v, σ', H', J'.ofTry ok, r, q⟩
end

/-! ### the book's own exceptions -/
def EXS : List Str := ["NoPlace", "NoPage", "NoJump", "BadEdition"]
structure ExcT (K : PySem.W.Frag) (mg : Mg) : Prop where
  at_ : ∀ c ∈ EXS, ∃ C, mg c = some (.ref C) ∧ ExcC K C
  be : ∃ B, mg "BookError" = some (.ref B) ∧ ∀ c ∈ EXS, PySem.W.exmOne K (cav mg c) (.ref B) = some true
  kit : ∀ c ∈ EXS, ∀ x ∈ EXS, PySem.W.kitOne K (cav mg c) (cav mg x) = some (c == x)
  ve : ∀ c ∈ EXS, PySem.W.kitOne K (cav mg c) (.type "ValueError") = some true
/-- isinstance(e, c) -/
def rIsX (K : PySem.W.Frag) : List V → Hp → VK → Prop := fun xs H Q => ∃ (a D : Addr) (c : V) (cv : Value) (b : Bool), xs = [.ref a, c] ∧ H a = some (IsExc a (.ref D)) ∧ ExcC K D ∧ (∀ u, RelV c u → u = cv) ∧ PySem.W.kitOne K (.ref D) cv = some b ∧ Q (.bl b) H
theorem call_isX {X : Cx} : CallR X (.builtin "isinstance") (rIsX X.K) := by
  intro pins s σ H xs us Q I r h
  obtain ⟨a, D, c, cv, b, rfl, ha, C, hcv, e, q⟩ := h
  cases r with
  | cons rx rr =>
    cases rr with
    | cons rt rr =>
      cases rr
      cases rx
      have ec := hcv _ rt
      subst ec
      obtain ⟨⟨oe, vs, hget, h1, h2, hv⟩, _⟩ := I.hok a _ ha
      have J : PySem.W.InstAt s.heap a oe D none := by
        obtain ⟨oc, od, oda, osl⟩ := oe
        dsimp only at h1 h2 hv
        subst h1 h2 hv
        exact ⟨hget, rfl, rfl, trivial⟩
      exact PySem.W.kia_one (PySem.W.handS_kitx_exc C.hg C.hk C.hs C.hd C.ha C.hn C.ht C.hm) I.kIn J e (fun z => nomatch z) fun tk => ⟨.bl b, H, I.kept (t' := tk) fun _ _ z => z, rfl, q⟩
def excOf (i : Nat) (env : Ev) : R Str := match sget env i with
  | .exc c => if c ∈ EXS then .ok c else .bad
  | _ => .bad
theorem exc_run {env : Ev} {i : Nat} {α : Type} {r : Str → R α} {k : α → Prop} {E : Str → Prop} (p : Post ((excOf i env).bind r) k E) : ∃ c, sget env i = .exc c ∧ c ∈ EXS ∧ Post (r c) k E := by
  have p := Post.bind p
  unfold excOf at p
  cases e : sget env i with
  | exc c =>
    rw [e] at p
    dsimp only at p
    split at p
    · rename_i h; exact ⟨c, rfl, h, p⟩
    · exact p.elim
  | _ => rw [e] at p; exact p.elim
def dIsE (i : Nat) (x : Str) : Ev → R PyData := fun env => (excOf i env).bind fun c => if x ∈ EXS then .ok (.bool (c == x)) else .bad
def dIsVE (i : Nat) : Ev → R PyData := fun env => (excOf i env).bind fun c => .ok (.bool true)
section
variable {X : Cx} {W : WX} {x y : Str} {pos p p1 p2 p3 : Pos}
theorem cav_some {mg : Mg} {c : Str} {v : Value} (h : mg c = some v) : cav mg c = v := by unfold cav; rw [h]; rfl
theorem de_isE (i : Nat) (T : ExcT X.K X.mg) (hm : X.mg "isinstance" = none) (hN : X.N[i]? = some x := by rfl) (hv : Vis X.env.scope x := by first | exact Or.inl rfl | exact Or.inr (Or.inl rfl) | exact Or.inr (Or.inr rfl)) (hd : (x == ("__debug__" : Str)) = false := by decide) (hcd : (x == ("__classdict__" : Str)) = false := by decide)
    (hgl : Gl X "isinstance" := by rfl) (hgT : Gl X y := by rfl) (hy : (y == ("__debug__" : Str)) = false := by decide) (he : starEach (.Name x p1 :: [.Name y p3]) X.env = (false, eval (.Name x p1) X.env) :: starEach [.Name y p3] X.env := by rfl) (hpl : (backTo pos (starEach [.Name y p3] X.env)).any (·.1) = false := by rfl) (hin : y ∈ EXS := by decide) :
    DE X W (.Call (.Name "isinstance" p) [.Name x p1, .Name y p3] [] pos) (dIsE i y) := by
  obtain ⟨D, hD, _⟩ := T.at_ y hin
  refine pre_E (pe_callB call_isX hgl hm PyProof.Rows.boot_isinstance (pa_cons (pe_var hN hv hd hcd) (pa_cons (pe_glob hgT hD (v := .ref D) rfl hy) pa_nil) he) (by decide) (by decide) he hpl) fun σ H Q ⟨H0, F, env, rl, p⟩ => ?_
  obtain ⟨c, e, hc, p⟩ := exc_run p
  rw [if_pos hin] at p
  obtain ⟨a, e1, e2⟩ := rl.exc e
  obtain ⟨C, hC, EC⟩ := T.at_ c hc
  have k := T.kit c hc y hin
  rw [cav_some hC, cav_some hD] at k
  rw [cav_some hC] at e2
  exact ⟨_, e1, a, C, .ref D, .ref D, _, rfl, rl.fh _ _ e2, EC, fun u r => r, k, p _ F H (.refl rl.fh) (.bl _)⟩
theorem de_isVE (i : Nat) (T : ExcT X.K X.mg) (hm : X.mg "isinstance" = none) (hmV : X.mg "ValueError" = none) (hN : X.N[i]? = some x := by rfl) (hv : Vis X.env.scope x := by first | exact Or.inl rfl | exact Or.inr (Or.inl rfl) | exact Or.inr (Or.inr rfl)) (hd : (x == ("__debug__" : Str)) = false := by decide) (hcd : (x == ("__classdict__" : Str)) = false := by decide)
    (hgl : Gl X "isinstance" := by rfl) (hgT : Gl X "ValueError" := by rfl) (he : starEach (.Name x p1 :: [.Name "ValueError" p3]) X.env = (false, eval (.Name x p1) X.env) :: starEach [.Name "ValueError" p3] X.env := by rfl) (hpl : (backTo pos (starEach [.Name "ValueError" p3] X.env)).any (·.1) = false := by rfl) :
    DE X W (.Call (.Name "isinstance" p) [.Name x p1, .Name "ValueError" p3] [] pos) (dIsVE i) := by
  refine pre_E (pe_callB call_isX hgl hm PyProof.Rows.boot_isinstance (pa_cons (pe_var hN hv hd hcd) (pa_cons (pe_bltn hgT hmV (by decide +kernel) (v := .ty "ValueError") rfl) pa_nil) he) (by decide) (by decide) he hpl) fun σ H Q ⟨H0, F, env, rl, p⟩ => ?_
  obtain ⟨c, e, hc, p⟩ := exc_run p
  obtain ⟨a, e1, e2⟩ := rl.exc e
  obtain ⟨C, hC, EC⟩ := T.at_ c hc
  have k := T.ve c hc
  rw [cav_some hC] at k e2
  exact ⟨_, e1, a, C, .ty "ValueError", .type "ValueError", _, rfl, rl.fh _ _ e2, EC, fun u r => r, k, p _ F H (.refl rl.fh) (.bl _)⟩
/-- x is None, x data or an exception -/
def dNoneX (i : Nat) : Ev → R Bool := fun env => match sget env i with
  | .val d => (isD d .none).bind asBool
  | .exc _ => .ok false
  | _ => .bad
theorem dt_noneX (i : Nat) {j} (hN : X.N[i]? = some x := by rfl) (hv : Vis X.env.scope x := by first | exact Or.inl rfl | exact Or.inr (Or.inl rfl) | exact Or.inr (Or.inr rfl)) (hd : (x == ("__debug__" : Str)) = false := by decide) (hcd : (x == ("__classdict__" : Str)) = false := by decide) (hm : behindInMarks .Is (.Constant .none j p2) = false := by rfl) :
    DT X W (.Compare (.Name x p1) [.Is] [.Constant .none j p2] pos) (dNoneX i) := pre_T (pt_cmpR op_isA (pe_var hN hv hd hcd) pe_non hm) fun σ H Q ⟨H0, F, env, rl, p⟩ => by
  unfold dNoneX at p
  cases e : sget env i with
  | val d =>
    rw [e] at p
    obtain ⟨v, h1, h2⟩ := rl.val e
    refine ⟨v, h1, ?_⟩
    show rIsA v .non H (fun x H' => ∃ k, x = V.bl k ∧ Q k H')
    refine opd_is F H v .non d .none _ _ rl.fh (.inl h2) (.inl .non) ((Post.bind p).mono (fun z k v' F' H' g q => ?_) fun c k => k)
    cases z <;> first | exact k.elim | skip
    cases q
    exact ⟨_, rfl, k F' H' g⟩
  | exc c =>
    rw [e] at p
    obtain ⟨a, e1, e2⟩ := rl.exc e
    exact ⟨_, e1, .inr ⟨rfl, false, rfl, p F H (.refl rl.fh)⟩⟩
  | _ => rw [e] at p; exact p.elim
def aExc (i : Nat) (g : Ev → R (List Sl)) : Ev → R (List Sl) := fun env => (excOf i env).bind fun c => (g env).bind fun ds => .ok (.exc c :: ds)
theorem da_exc (i : Nat) {es : List Expr} {l : Ev → R (List Sl)} (hr : DA X W es l) (hN : X.N[i]? = some x := by rfl) (hv : Vis X.env.scope x := by first | exact Or.inl rfl | exact Or.inr (Or.inl rfl) | exact Or.inr (Or.inr rfl)) (hd : (x == ("__debug__" : Str)) = false := by decide)
    (hcd : (x == ("__classdict__" : Str)) = false := by decide) (hs : starEach (.Name x pos :: es) X.env = (false, eval (.Name x pos) X.env) :: starEach es X.env := by rfl) : DA X W (.Name x pos :: es) (aExc i l) := pre_A (pa_cons (pe_var hN hv hd hcd) hr hs) fun σ H Q ⟨H0, F, env, rl, p⟩ => by
  obtain ⟨c, e, hc, p⟩ := exc_run p
  obtain ⟨a, e1, e2⟩ := rl.exc e
  refine ⟨_, e1, H0, F, env, rl, (Post.bind p).mono (fun ds p2 vs F2 H2 g2 b2 => ?_) fun c p2 => p2⟩
  exact p2 _ F2 H2 g2 ⟨⟨a, rfl, g2.f _ _ e2⟩, trivial, b2⟩
/-- y = e, e an exception's name -/
def sMovE (i j : Nat) : Ev → R Out := fun env => (excOf j env).bind fun c => .ok (.nx (env.set i (.exc c)))
theorem ds_movE (i j : Nat) (hNd : X.N.Nodup) (hN : X.N[j]? = some x := by rfl) (hv : Vis X.env.scope x := by first | exact Or.inl rfl | exact Or.inr (Or.inl rfl) | exact Or.inr (Or.inr rfl)) (hd : (x == ("__debug__" : Str)) = false := by decide) (hcd : (x == ("__classdict__" : Str)) = false := by decide)
    (hi : X.N[i]? = some y := by rfl) (hx : L2.Loc X.env.scope y := by first | exact Or.inl rfl | exact Or.inr rfl) (hs : swapsWith (.Name x p1) (some (.Name y p2)) pos.line X.env = pure false := by rfl)
    (hf : X.fn y = true ∨ X.env.scope.names.lookup y = some .local := by first | exact .inl rfl | exact .inr rfl) : DS X W (.Assign [.Name y p2] (.Name x p1) pos) (sMovE i j) := pre_S (ps_set hNd hi hx (pe_var hN hv hd hcd) hs hf) fun D σ H ⟨F0, H0, F, env, gr, rl, p⟩ => by
  obtain ⟨c, e, hc, p⟩ := exc_run p
  obtain ⟨a, e1, e2⟩ := rl.exc e
  exact ⟨_, e1, p _ F H gr (rl.set i (s := .exc c) ⟨a, rfl, e2⟩ trivial)⟩
/-! try .. except BookError as e -/
def clrO (i : Nat) : Out → R Out
  | .nx e => .ok (.nx (e.set i .emp))
  | .rt d => .ok (.rt d)
  | .bk e => .ok (.bk (e.set i .emp))
  | .ct e => .ok (.ct (e.set i .emp))
  | .rb b d => .ok (.rb b d)
  | .ex _ _ => .bad
def tryO (i : Nat) (n : Nat) (h : Ev → R Out) : Out → R Out
  | .ex b c => if c ∈ EXS ∧ i ≠ 0 then (noexc (h (((List.replicate n Sl.emp).set 0 (.slf b)).set i (.exc c)))).bind (clrO i) else .bad
  | .nx e => .ok (.nx e)
  | .rt d => .ok (.rt d)
  | .bk e => .ok (.bk e)
  | .ct e => .ok (.ct e)
  | .rb b d => .ok (.rb b d)
def sTry (i : Nat) (g h : Ev → R Out) : Ev → R Out := fun env => match g env with
  | .ok o => tryO i env.length h o
  | .exc c => if c ∈ EXS then (noexc (h ((List.replicate env.length Sl.emp).set i (.exc c)))).bind (clrO i) else .bad
  | .bad => .bad
theorem clr_post {K : PySem.W.Frag} {mg : Mg} {W : WX} {F0 : Hp} {H0 : G0} {D : Ends} {i : Nat} {r : R Out} {E : Str → Prop} (p : Post ((noexc r).bind (clrO i)) (OutP K mg W F0 H0 D) E) :
    Post r (OutP K mg W0 F0 H0 { nx := fun σ' H' => D.nx (σ'.set i none) H', rt := D.rt, bk := fun σ' H' => D.bk (σ'.set i none) H', ct := fun σ' H' => D.ct (σ'.set i none) H' }) (ExcP mg W0 F0 H0) := by
  refine (noexc_post (Post.bind p)).mono (fun o k => ?_) fun _ z => z.elim
  cases o with
  | nx e => exact fun σ' F' H' g'' r' => k _ F' H' g'' (r'.set i (s := .emp) trivial trivial)
  | rt d => exact k
  | rb b d => exact k
  | ex b d => exact k.elim
  | bk e => exact fun σ' F' H' g'' r' => k _ F' H' g'' (r'.set i (s := .emp) trivial trivial)
  | ct e => exact fun σ' F' H' g'' r' => k _ F' H' g'' (r'.set i (s := .emp) trivial trivial)
theorem Rl.emps {K : PySem.W.Frag} {mg : Mg} {H0 : G0} {F H : Hp} {σ : L2.St} (fh : Same F H) : Rl K mg H0 (List.replicate σ.length Sl.emp) σ F H := by
  have e : ∀ (j : Nat) (t : Sl), (List.replicate σ.length Sl.emp)[j]? = some t → t = .emp := fun j t h => by
    obtain ⟨_, e⟩ := List.getElem?_eq_some_iff.mp h
    rw [List.getElem_replicate] at e
    exact e.symm
  refine ⟨fh, List.length_replicate, fun j t u h1 h2 => ?_, fun j l t t' u u' x hjl h1 h2 h3 h4 zz => ?_⟩
  · rw [e j t h1]; trivial
  · rw [e j t h1] at zz; exact zz.elim
theorem set_same' {σ : L2.St} {i : Nat} {w : Option V} (h : σ[i]? = some w) : σ.set i w = σ := by
  refine List.ext_getElem? fun j => ?_
  by_cases hj : i = j
  · subst hj
    rw [List.getElem?_set_self (List.getElem?_eq_some_iff.mp h).1, h]
  · rw [List.getElem?_set_ne hj]
theorem Rl.one_slf {K : PySem.W.Frag} {mg : Mg} {H0 : G0} {F H : Hp} {σ : L2.St} {b : Big} (fh : Same F H) (h0 : σ[0]? = some (some (.ref H0.sa))) (s : SlotR K mg H0 F H (.slf b) (some (.ref H0.sa))) : Rl K mg H0 ((List.replicate σ.length Sl.emp).set 0 (.slf b)) σ F H := by
  have key := (Rl.emps (K := K) (mg := mg) (H0 := H0) (σ := σ) fh).put 0 (s := .slf b) (w := some (.ref H0.sa)) (Same.refl _) fh (fun x o e _ => e) (fun j t u x _ h1 h2 z => (((Rl.emps (K := K) (mg := mg) (H0 := H0) (σ := σ) fh).sl j t u h1 h2).part z).2.1) s fun j t u x _ h1 _ z => ?_
  · rw [set_same' h0] at key; exact key
  · obtain ⟨_, e⟩ := List.getElem?_eq_some_iff.mp h1
    rw [List.getElem_replicate] at e
    subst e
    exact z.elim
theorem ds_try {n : Str} {g h : Ev → R Out} {body suite : List Stmt} {b₀ : Stmt} (i : Nat) (T : ExcT X.K X.mg) (hN : X.N.Nodup) (tk : Takes X W)
    (hb : ∀ (W : WX) (pn : List (Addr × Obj)) (xe : Value → Shared → Prop), Takes (X.tr pn xe) W → PassesOwn (model X.prog X.w) X.A X.env xe → DSs (X.tr pn xe) W body g)
    (hsu : ∀ (a : Addr) (pn : List (Addr × Obj)), DSs (X.suite a pn) W0 (b₀ :: suite) h)
    (hs : X.stack = X.env :: X.outer := by rfl) (hf : X.env.frame = some X.env.locals := by rfl) (hex : X.ex = [] := by rfl) (hi : X.N[i]? = some n := by rfl) (hln : X.env.kindOf n = some .local := by rfl) (hgl : Gl X "BookError" := by rfl) :
    DS X W (.Try body [.ExceptHandler (some (.Name "BookError" p1)) (some n) (b₀ :: suite) p2] [] [] pos) (sTry i g h) := by
  obtain ⟨B, hB, hX⟩ := T.be
  refine pre_S (ps_try_keep (c := .ref B) (tb := fun W => tDS X.K X.mg W g) (ts := fun _ => tDS X.K X.mg W0 h) hs hf hex hN hi hln ⟨hgl, by decide, .inl hB⟩ tk hb fun a _ pn => hsu a pn) fun D σ H ⟨F0, H0, F, env, gr, rl, p⟩ hl => ⟨F0, H0, F, env, gr, rl, ?_⟩
  unfold sTry at p
  cases z : g env with
  | ok o =>
    rw [z] at p
    cases o with
    | ex b c =>
      have p : Post (if c ∈ EXS ∧ i ≠ 0 then (noexc (h (((List.replicate env.length Sl.emp).set 0 (.slf b)).set i (.exc c)))).bind (clrO i) else .bad) (OutP X.K X.mg W F0 H0 D) (ExcP X.mg W F0 H0) := p
      split at p
      · rename_i hc
        intro σ' F' H' g' h0 sr hl'
        refine ⟨rfl, true, hX c hc.1, fun _ a na => ?_, fun z => by cases z⟩
        have hle : env.length = σ'.length := by rw [rl.len, hl, hl']
        have gn := Grow.new (o := IsExc a (cav X.mg c)) g'.fh na
        rw [hle] at p
        exact ⟨F0, H0, upd F' a (IsExc a (cav X.mg c)), _, g'.on gn, ((Rl.one_slf g'.fh h0 sr).grow gn).set i (s := .exc c) ⟨a, rfl, upd_same⟩ trivial, clr_post p⟩
      · exact p.elim
    | nx e => exact p
    | rt d => exact p
    | bk e => exact p
    | ct e => exact p
    | rb b d => exact p
  | bad => rw [z] at p; exact p
  | exc c =>
    rw [z] at p
    dsimp only at p
    split at p
    · rename_i hc
      intro σ' F' H' g' hl'
      refine ⟨rfl, true, hX c hc, fun _ a na => ?_, fun z => by cases z⟩
      have hle : env.length = σ'.length := by rw [rl.len, hl, hl']
      have gn := Grow.new (o := IsExc a (cav X.mg c)) g'.fh na
      rw [hle] at p
      exact ⟨F0, H0, upd F' a (IsExc a (cav X.mg c)), _, g'.on gn, ((Rl.emps g'.fh).grow gn).set i (s := .exc c) ⟨a, rfl, upd_same⟩ trivial, clr_post p⟩
    · exact p.elim
end
/-! ### lists of truths: count, index -/
def flatD : PyData → Bool
  | .none => true
  | .bool _ => true
  | .int _ => true
  | .str _ => true
  | _ => false
def rCntV (K : PySem.W.Frag) : V → List V → Hp → VK → Prop := fun x xs H Q => ∃ (p : Addr) (ys : List V) (y : V), x = .ref p ∧ xs = [y] ∧ SqL K H p ys ∧ flatV y = true ∧ ys.all flatV = true ∧ Q (.int ((ys.countP fun z => eqV z y : Nat))) H
theorem countP_eqU {x : V} : ∀ {xs : List V} {us : List Value}, Vals xs us → xs.all flatV = true → us.countP (eqU x) = xs.countP fun y => eqV y x
  | _, _, .nil, _ => rfl
  | y :: xs, u :: us, .cons r t, f => by
    rw [List.all_cons, Bool.and_eq_true] at f
    rw [List.countP_cons, List.countP_cons, countP_eqU t f.2, eqU_of r f.1]
theorem mt_count {X : Cx} : MtR X "list.count" (rCntV X.K) := by
  intro pins s σ H x xs v us Q I rx rxs h
  obtain ⟨p, ys, y, rfl, rfl, hs, fy, fys, q⟩ := h
  cases rx
  cases rxs with
  | cons ry rt =>
    rename_i uy ut
    cases rt
    obtain ⟨its, rv, ⟨⟨cls, dd, data, sl⟩, n, ho, hc, hdn, hd⟩, hlen⟩ := I.list hs
    simp only at hc hd
    subst hc hd
    refine call_meets PySem.F.slot_list_count ⟨_, ho, rfl⟩ PySem.F.entry_list_count (PySem.F.args_list_count_2 _ _)
      (SeqAt.list_countAt p its.toArray n dd sl uy (eqU y)) ⟨ho, fun u' hu' => mem_eqAt ry fy rv fys u' (by simpa using hu'), ?_⟩
    have ec : its.toArray.toList.countP (eqU y) = ys.countP fun z => eqV z y := countP_eqU rv fys
    refine ⟨.int ((ys.countP fun z => eqV z y : Nat)), H, I.tok _, ⟨s.toks, ?_⟩, q⟩
    show Value.int ((its.toArray.toList.countP (eqU y) : Nat) : Int) s.toks = _
    rw [ec]
def dLm1 (g : List PyData → PyData → R PyData) (f1 f2 : Ev → R PyData) : Ev → R PyData := fun env => (f1 env).bind fun x => (asList x).bind fun a => (f2 env).bind fun y => g a y
where asList : PyData → R (List PyData)
  | .list xs => .ok xs
  | _ => .bad
def countD (xs : List PyData) : PyData → R PyData
  | .bool b => (opt (boolsOf xs)).bind fun bs => .ok (.int (bs.countP (· == b) : Nat))
  | _ => .bad
def indexD (xs : List PyData) : PyData → R PyData
  | .bool b => (opt (boolsOf xs)).bind fun bs => (opt (bs.findIdx? (· == b))).bind fun k => .ok (.int (k : Nat))
  | _ => .bad
theorem all_flat_bl : ∀ bs : List Bool, (bs.map V.bl).all flatV = true
  | [] => rfl
  | b :: bs => by rw [List.map_cons, List.all_cons, all_flat_bl bs]; rfl
theorem count_bl (b : Bool) : ∀ bs : List Bool, ((bs.map V.bl).countP fun z => eqV z (.bl b)) = bs.countP (· == b)
  | [] => rfl
  | c :: bs => by rw [List.map_cons, List.countP_cons, List.countP_cons, count_bl b bs]; rfl
section
variable {X : Cx} {W : WX} {a e : Expr} {f g : Ev → R PyData} {pos p cpos apos : Pos}
theorem de_count (ha : DB X W a f) (he : DE X W e g) (hse : starEach (e :: []) X.env = (false, eval e X.env) :: starEach [] X.env := by rfl)
    (hbase : attributeBase a "count" X.env (eval a X.env) = eval a X.env := by rfl)
    (hfew : ((backTo cpos (starEach (e :: []) X.env)).all (fun x => !x.1) && (backToKw cpos (keywordEach [] X.env)).all (fun x => x.1.isSome)
      && decide ((e :: []).length + ([] : List Keyword).length + (if ([] : List Keyword).isEmpty then 0 else 1) < 30)) = true := by rfl)
    (hline : (apos.endLine == cpos.line) = true := by rfl) (hplain : (backTo cpos (starEach [] X.env)).any (·.1) = false := by rfl) :
    DE X W (.Call (.Attribute a "count" apos) [e] [] cpos) (dLm1 countD f g) :=
  pre_E (pe_bm PySem.F.plainAttrs_list PySem.F.slot_list_count PySem.F.type_list_count mt_count ha (pa_cons he pa_nil hse) hbase hfew hline hse hplain) fun σ H Q ⟨H0, F, env, rl, p⟩ => by
  refine ⟨H0, F, env, rl, (Post.bind p).mono (fun d p1 v F1 H1 g1 b1 => ?_) fun c k => k⟩
  cases d <;> first | exact p1.elim | skip
  rename_i xs
  obtain ⟨l, vs, rfl, hl, q⟩ := b1.list g1.fh
  refine ⟨.inl ⟨rfl, vs, .inl (.inl hl)⟩, H0, F1, env, rl.grow g1, (Post.bind (show Post ((g env).bind fun y => countD xs y) _ _ from p1)).mono (fun d2 p2 v2 F2 H2 g2 q2 => ?_) fun c k F' H' g' => k F' H' (g1.trans g')⟩
  unfold countD at p2
  split at p2
  · rename_i b
    cases q2
    have p2 := Post.bind p2
    cases z : boolsOf xs with
    | none => rw [z] at p2; exact p2.elim
    | some bs =>
      rw [z] at p2
      rw [boolsOf_eq z] at q
      have := q.bools; subst this
      refine ⟨l, bs.map V.bl, .bl b, rfl, rfl, .inl (.inl (g2.h _ _ hl)), rfl, all_flat_bl bs, ?_⟩
      rw [count_bl]
      exact p2 _ F2 H2 (g1.trans g2) (.int _)
  · exact p2.elim
theorem de_index (ha : DB X W a f) (he : DE X W e g) (hse : starEach (e :: []) X.env = (false, eval e X.env) :: starEach [] X.env := by rfl)
    (hbase : attributeBase a "index" X.env (eval a X.env) = eval a X.env := by rfl)
    (hfew : ((backTo cpos (starEach (e :: []) X.env)).all (fun x => !x.1) && (backToKw cpos (keywordEach [] X.env)).all (fun x => x.1.isSome)
      && decide ((e :: []).length + ([] : List Keyword).length + (if ([] : List Keyword).isEmpty then 0 else 1) < 30)) = true := by rfl)
    (hline : (apos.endLine == cpos.line) = true := by rfl) (hplain : (backTo cpos (starEach [] X.env)).any (·.1) = false := by rfl) :
    DE X W (.Call (.Attribute a "index" apos) [e] [] cpos) (dLm1 indexD f g) :=
  pre_E (pe_bm PySem.F.plainAttrs_list PySem.F.slot_list_index PySem.F.type_list_index mt_index ha (pa_cons he pa_nil hse) hbase hfew hline hse hplain) fun σ H Q ⟨H0, F, env, rl, p⟩ => by
  refine ⟨H0, F, env, rl, (Post.bind p).mono (fun d p1 v F1 H1 g1 b1 => ?_) fun c k => k⟩
  cases d <;> first | exact p1.elim | skip
  rename_i xs
  obtain ⟨l, vs, rfl, hl, q⟩ := b1.list g1.fh
  refine ⟨.inl ⟨rfl, vs, .inl (.inl hl)⟩, H0, F1, env, rl.grow g1, (Post.bind (show Post ((g env).bind fun y => indexD xs y) _ _ from p1)).mono (fun d2 p2 v2 F2 H2 g2 q2 => ?_) fun c k F' H' g' => k F' H' (g1.trans g')⟩
  unfold indexD at p2
  split at p2
  · rename_i b
    cases q2
    have p2 := Post.bind p2
    cases z : boolsOf xs with
    | none => rw [z] at p2; exact p2.elim
    | some bs =>
      rw [z] at p2
      have p2 := Post.bind (show Post ((opt (bs.findIdx? (· == b))).bind fun k => R.ok (PyData.int (k : Nat))) _ _ from p2)
      cases y : bs.findIdx? (· == b) with
      | none => rw [y] at p2; exact p2.elim
      | some j =>
        rw [y] at p2
        rw [boolsOf_eq z] at q
        have := q.bools; subst this
        obtain ⟨h1, h2, h3⟩ := List.findIdx?_eq_some_iff_getElem.mp y
        refine ⟨l, bs.map V.bl, .bl b, j, .bl bs[j], rfl, rfl, .inl (.inl (g2.h _ _ hl)), rfl, all_flat_bl bs, by rw [List.getElem?_map, List.getElem?_eq_getElem h1]; rfl, h2, fun m z' hm hz => ?_, p2 _ F2 H2 (g1.trans g2) (.int _)⟩
        rw [List.getElem?_map, List.getElem?_eq_getElem (by omega)] at hz
        cases hz
        have := h3 m hm
        show (bs[m] == b) = false
        simpa using this
  · exact p2.elim
end
end L3

namespace L3
open PySem PySem.Spec PyProof.Rows L2
/-! ### range(a, b, c), c positive -/
def rangeN (i j c : Int) : Nat := (if i < j then (j - i - 1) / c + 1 else 0).toNat
def rangeC (lo c : Int) (n : Nat) : List PyData := (List.range n).map fun (k : Nat) => .int (lo + (k : Int) * c)
theorem walkD_rangeC {lo c : Int} {n : Nat} {F1 : Hp} : WalkD (Itc lo c n) (rangeC lo c n) F1 where
  goes := fun i H hi s => by
    unfold rangeC at hi; rw [List.length_map, List.length_range] at hi; exact hi
  stops := fun H s => by
    show n ≤ _
    unfold rangeC; rw [List.length_map, List.length_range]; exact Nat.le_refl _
  yields := fun i d F H v H' hd s1 s2 y => by
    obtain ⟨e, ev⟩ := y
    subst e; subst ev
    unfold rangeC at hd
    rw [List.getElem?_map] at hd
    cases h : (List.range n)[i]? with
    | none => rw [h] at hd; cases hd
    | some k =>
      rw [h] at hd
      cases hd
      have hi : i < (List.range n).length := (List.getElem?_eq_some_iff.mp h).1
      rw [List.getElem?_eq_getElem hi, List.getElem_range] at h
      cases h
      exact ⟨F, .refl s2, .int _⟩
theorem rangeC_ok {i j c : Int} (h1 : i.natAbs ≤ BIG) (h2 : j.natAbs ≤ BIG) (h3 : 0 < c) (h4 : c < 1000) : RgC i j c (rangeN i j c) := by
  unfold BIG at h1 h2
  have e : Builtin.Range.rangeSize i j c = (rangeN i j c : Nat) := by
    unfold Builtin.Range.rangeSize rangeN
    rw [if_pos h3]
    split
    · rename_i h
      have := Int.ediv_nonneg (show 0 ≤ j - i - 1 by omega) (show 0 ≤ c by omega)
      omega
    · rfl
  refine ⟨by omega, by omega, ?_, e⟩
  unfold Builtin.Range.small
  rw [e]
  have hn : ((rangeN i j c : Nat) : Int) ≤ 2000001 := by
    unfold rangeN
    split
    · rename_i h
      have := Int.ediv_le_self c (show 0 ≤ j - i - 1 by omega)
      omega
    · decide
  simp only [Builtin.Range.rangeFitsLong, Bool.and_eq_true, Bool.or_eq_true, decide_eq_true_eq, beq_iff_eq]
  have hn0 : (0 : Int) ≤ (rangeN i j c : Nat) := by omega
  generalize ((rangeN i j c : Nat) : Int) = n at hn hn0 ⊢
  have m1 : n * c ≤ 2000001 * 1000 := Int.le_trans (Int.mul_le_mul_of_nonneg_right hn (by omega)) (Int.mul_le_mul_of_nonneg_left (by omega) (by decide))
  have m0 : 0 ≤ n * c := Int.mul_nonneg hn0 (by omega)
  simp only [if_pos h3, Bool.and_eq_true, decide_eq_true_eq]
  omega
def iRange3 (f g h : Ev → R PyData) : Ev → R (List PyData) := fun env => (f env).bind fun x => (g env).bind fun y => (h env).bind fun z => (asInt x).bind fun m => (asInt y).bind fun n => (asInt z).bind fun c =>
  if m.natAbs ≤ BIG ∧ n.natAbs ≤ BIG ∧ 0 < c ∧ c < 1000 then .ok (rangeC m c (rangeN m n c)) else .bad
section
variable {X : Cx} {W : WX} {tg a b e : Expr} {f g h : Ev → R PyData} {pos p : Pos}
theorem di_range3 (hm : X.mg "range" = none) (ha : DE X W a f) (hb : DE X W b g) (he : DE X W e h) (hg : Gl X "range" := by rfl) (hs : starEach [a, b, e] X.env = (false, eval a X.env) :: starEach [b, e] X.env := by rfl) (hpl : (backTo pos (starEach [b, e] X.env)).any (·.1) = false := by rfl)
    (hs2 : starEach [b, e] X.env = (false, eval b X.env) :: starEach [e] X.env := by rfl) (hs3 : starEach [e] X.env = (false, eval e X.env) :: starEach [] X.env := by rfl) :
    DI X W tg (.Call (.Name "range" p) [a, b, e] [] pos) (iRange3 f g h) := pre_I (pi_range3 hg hm (pa_cons ha (pa_cons hb (pa_cons he pa_nil hs3) hs2) hs) hs hpl) fun σ H Q ⟨H0, F, env, rl, p⟩ => by
  refine ⟨H0, F, env, rl, (Post.bind p).mono (fun d p1 v F1 H1 g1 q => ?_) fun c p1 => p1⟩
  refine ⟨H0, F1, env, rl.grow g1, (Post.bind p1).mono (fun d2 p2 v2 F2 H2 g2 q2 => ?_) fun c p2 F' H' g' => p2 F' H' (g1.trans g')⟩
  have g12 := g1.trans g2
  refine ⟨H0, F2, env, rl.grow g12, (Post.bind p2).mono (fun d3 p3 v3 F3 H3 g3 q3 => ?_) fun c p2 F' H' g' => p2 F' H' (g12.trans g')⟩
  cases d <;> first | exact p3.elim | skip
  rename_i m
  cases d2 <;> first | exact p3.elim | skip
  rename_i n
  cases d3 <;> first | exact p3.elim | skip
  rename_i c
  cases q
  cases q2
  cases q3
  have p4 : Post (if m.natAbs ≤ BIG ∧ n.natAbs ≤ BIG ∧ 0 < c ∧ c < 1000 then R.ok (rangeC m c (rangeN m n c)) else .bad) _ _ := p3
  split at p4
  · rename_i hh
    exact ⟨m, n, c, _, rfl, rangeC_ok hh.1 hh.2.1 hh.2.2.1 hh.2.2.2, p4 _ F3 H3 (g12.trans g3) walkD_rangeC⟩
  · exact p4.elim
end
end L3

namespace L3
open PySem PySem.Spec PyProof.Rows L2
/-! ### defs whose first argument is changed -/
def BigAt (mg : Mg) (F H : Hp) (a : Addr) (b : Big) : Prop := BigR mg F H a b ∧ (fpOf H a b).Nodup ∧ ∀ x ∈ fpOf H a b, F x = none ∧ ∃ o, H x = some o ∧ ∀ ob u, o ≠ .frz ob u
/-- what may have changed: the parts fp, and what is new -/
structure Ch (F H : Hp) (fp : List Addr) (F' H' : Hp) : Prop where
  f : Same F F'
  fh : Same F' H'
  k : ∀ x o, H x = some o → x ∉ fp → H' x = some o
  nw : ∀ x o, F' x = some o → F x = some o ∨ H x = none ∨ x ∈ fp
theorem Ch.grow {F H F1 H1 F' H' : Hp} {fp : List Addr} (g : Grow F H F1 H1) (hfp : ∀ x ∈ fp, ∃ o, H x = some o) (c : Ch F1 H1 fp F' H') : Ch F H fp F' H' :=
  ⟨g.f.trans c.f, c.fh, fun x o e n => c.k x o (g.h x o e) n, fun x o e => by
    rcases c.nw x o e with z | z | z
    · rcases g.nw x o z with z | z
      · exact .inl z
      · exact .inr (.inl z)
    · refine .inr (.inl ?_)
      cases e' : H x with
      | none => rfl
      | some u => rw [g.h x u e'] at z; cases z
    · exact .inr (.inr z)⟩
def plain : Sl → Bool
  | .val _ => true
  | .scr _ => true
  | .exc _ => true
  | _ => false
abbrev ResB : Type := (Except Str PyData) × Big
def spB (K : PySem.W.Frag) (mg : Mg) (m : Big → List Sl → R ResB) (n : Nat) : Sp := fun vs H Q E => ∃ F a b ws ss, vs = .ref a :: ws ∧ Same F H ∧ BigAt mg F H a b ∧ SlA K mg F H ws ss ∧ ss.length + 1 = n ∧ ss.all plain = true ∧
  Post (m b ss) (fun r => ∀ F' H', Ch F H (fpOf H a b) F' H' → BigAt mg F' H' a r.2 → (∀ x ∈ fpOf H' a r.2, x ∈ fpOf H a b ∨ H x = none) →
    match r.1 with
    | .ok d => ∀ v, Dq F' v d → Q v H'
    | .error c => E (cav mg c) none H') fun _ => False
def nxB : Sl → R ResB
  | .slf b => .ok (.ok .none, b)
  | _ => .bad
def outB : Out → R ResB
  | .rb b d => .ok (.ok d, b)
  | .ex b c => .ok (.error c, b)
  | .nx e => nxB (sget e 0)
  | _ => .bad
def denB (n : Nat) (g : Ev → R Out) : Big → List Sl → R ResB := fun b ss => (noexc (g (.slf b :: (ss ++ List.replicate (n - (ss.length + 1)) .emp)))).bind outB
theorem plain_ghost {K : PySem.W.Frag} {mg : Mg} {G G' : G0} {F H : Hp} {s : Sl} {w : Option V} (h : SlotR K mg G F H s w) (n : plain s = true) : SlotR K mg G' F H s w := by
  cases s with
  | val _ => exact h
  | scr _ => exact h
  | exc _ => exact h
  | _ => cases n
theorem plain_own {s : Sl} (n : plain s = true) : noOwn s := by
  cases s with
  | val _ => trivial
  | scr _ => trivial
  | exc _ => trivial
  | _ => cases n
def ghostB (H : Hp) (a : Addr) (fp : List Addr) : G0 := ⟨fun x => if x ∈ fp then none else H x, a⟩
theorem ghostB_same {H : Hp} {a : Addr} {fp : List Addr} : Same (ghostB H a fp).hp H := fun x o e => by
  have e' : (if x ∈ fp then none else H x) = some o := e
  split at e'
  · cases e'
  · exact e'
theorem ghostB_in {H : Hp} {a x : Addr} {fp : List Addr} (h : x ∈ fp) : (ghostB H a fp) x = none := if_pos h
theorem ghostB_none {H : Hp} {a x : Addr} {fp : List Addr} (h : (ghostB H a fp) x = none) : x ∈ fp ∨ H x = none := by
  have e' : (if x ∈ fp then none else H x) = none := h
  split at e'
  · rename_i h; exact .inl h
  · exact .inr e'
theorem Rl.startB {K : PySem.W.Frag} {mg : Mg} {F H : Hp} {ws : List V} {ss : List Sl} {a : Addr} {b : Big} (N : List Str) (fh : Same F H) (ba : BigAt mg F H a b) (q : SlA K mg F H ws ss) (hp : ss.all plain = true) :
    Rl K mg (ghostB H a (fpOf H a b)) (.slf b :: (ss ++ List.replicate (N.length - (ss.length + 1)) .emp)) (L2.start N (.ref a :: ws)) F H := by
  have hl := q.length
  have hst : L2.start N (.ref a :: ws) = some (.ref a) :: ((ws.map some) ++ List.replicate (N.length - (ws.length + 1)) none) := by
    unfold L2.start; simp
  have pl : ∀ (i : Nat) (s : Sl), (ss ++ List.replicate (N.length - (ss.length + 1)) Sl.emp)[i]? = some s → s = .emp ∨ (ss[i]? = some s ∧ plain s = true) := fun i s h => by
    by_cases hi : i < ss.length
    · rw [List.getElem?_append_left hi] at h
      exact .inr ⟨h, List.all_eq_true.mp hp s (List.mem_of_getElem? h)⟩
    · rw [List.getElem?_append_right (by omega)] at h
      obtain ⟨_, e⟩ := List.getElem?_eq_some_iff.mp h
      rw [List.getElem_replicate] at e
      exact .inl e.symm
  have slf0 : SlotR K mg (ghostB H a (fpOf H a b)) F H (.slf b) (some (.ref a)) := ⟨a, rfl, rfl, ba.1, ba.2.1, fun x hx => ⟨ghostB_in hx, ba.2.2 x hx⟩⟩
  refine ⟨fh, by rw [hst]; simp [hl], fun i s w h1 h2 => ?_, fun i j s t w u x hij h1 h2 h3 h4 z => ?_⟩
  · rw [hst] at h2
    cases i with
    | zero => cases h1; cases h2; exact slf0
    | succ i =>
      rw [List.getElem?_cons_succ] at h1 h2
      rcases pl i s h1 with rfl | ⟨h3, h4⟩
      · trivial
      · obtain ⟨v, e1, e2, e3⟩ := q.get h3
        have hi : i < ws.length := (List.getElem?_eq_some_iff.mp e1).1
        rw [List.getElem?_append_left (by simpa using hi), List.getElem?_map, e1] at h2
        cases h2
        exact plain_ghost e2 h4
  · have ne : ∀ (i : Nat) (s : Sl), i ≠ 0 → (Sl.slf b :: (ss ++ List.replicate (N.length - (ss.length + 1)) Sl.emp))[i]? = some s → noOwn s := fun i s hi h => by
      cases i with
      | zero => exact absurd rfl hi
      | succ i =>
        rw [List.getElem?_cons_succ] at h
        rcases pl i s h with rfl | ⟨_, h4⟩
        · trivial
        · exact plain_own h4
    by_cases hi : i = 0
    · exact (ne j t (fun e => hij (by omega)) h2).fp
    · exact absurd z (ne i s hi h1).fp
abbrev FnB (P : Program) (w : World) (K : PySem.W.Frag) (mg : Mg) (base : Heap) (k : Nat) (fa : Addr) (fd : FuncData) (ps : List Str) (m : Big → List Sl → R ResB) : Prop := FnOk P w K mg base (L2.CX P w) k fa fd ps (spB K mg m ps.length)
theorem fnB_ok {P : Program} {w : World} {K : PySem.W.Frag} {mg : Mg} {base : Heap} {x qual : Str} {params : Arguments} {body : List Stmt} {scope : Scope} {fa : Addr} {fd : FuncData} {N ps : List Str} {k : Nat} {g : Ev → R Out} (F : FunD K x qual params body scope [] [] fa fd) (S : FnScope N ps scope)
    (hb : ∀ (cdv : Value) (A : Around) (outer : List Env) (s : Shared) (H : Hp) (E : XK), Room k (A.deeper (envOfC qual scope s.heap.objs.size fa cdv)) → DSs (cxOf (L2.CX P w) P w K mg base N qual scope fa cdv A outer s H E) (fun cls d _ H => E cls d H) body g) :
    FnB P w K mg base (k + 1) fa fd ps (denB N.length g) := by
  refine F.ok S (fun vs H Q E ⟨F, a, b, ws, ss, e, fh, ba, q, hl, hp, _⟩ => by rw [e, List.length_cons, q.length, hl]) fun cdv A outer s H vs Q E hr ⟨F, a, b, ws, ss, e, fh, ba, q, hl, hp, p⟩ => ?_
  subst e
  refine ⟨_, hb cdv A outer s H E hr, F, ghostB H a (fpOf H a b), F, _, ⟨Same.refl _, ghostB_same, fh, fun _ _ z => .inl z⟩, Rl.startB N fh ba q hp, ?_⟩
  have ch : ∀ {F' H' : Hp}, Grow F (ghostB H a (fpOf H a b)) F' H' → Ch F H (fpOf H a b) F' H' := fun {F' H'} g' => ⟨g'.f, g'.fh, fun x o e n => g'.h x o (by show (if x ∈ fpOf H a b then none else H x) = some o; rw [if_neg n]; exact e), fun x o e => by
    rcases g'.nw x o e with z | z
    · exact .inl z
    · rcases ghostB_none z with z | z
      · exact .inr (.inr z)
      · exact .inr (.inl z)⟩
  have bat : ∀ {F' H' : Hp} {b' : Big}, SlotR K mg (ghostB H a (fpOf H a b)) F' H' (.slf b') (some (.ref a)) → BigAt mg F' H' a b' ∧ ∀ x ∈ fpOf H' a b', x ∈ fpOf H a b ∨ H x = none := fun {F' H' b'} z => by
    obtain ⟨a', e1, e2, z1, z2, z3⟩ := z
    cases e1
    exact ⟨⟨z1, z2, fun x hx => (z3 x hx).2⟩, fun x hx => ghostB_none (z3 x hx).1⟩
  refine (noexc_post (Post.bind p)).mono (fun o k => ?_) fun c k => k.elim
  cases o with
  | nx e =>
    have k : Post (nxB (sget e 0)) _ _ := k
    cases z : sget e 0 with
    | slf b' =>
      rw [z] at k
      refine fun σ' F' H' g' r' => ?_
      obtain ⟨w, _, e1, s1⟩ := r'.at_ z (by intro y; cases y)
      obtain ⟨a', e2, e3, _⟩ := id s1
      have e4 : w = some (.ref a) := by rw [e2, e3]; rfl
      rw [e4] at s1
      obtain ⟨b1, b2⟩ := bat s1
      exact k F' H' (ch g') b1 b2 _ .non
    | _ => rw [z] at k; exact k.elim
  | rt d => exact k.elim
  | bk e => exact k.elim
  | ct e => exact k.elim
  | rb b' d =>
    refine fun v F' H' g' q z => ?_
    obtain ⟨b1, b2⟩ := bat z
    exact k F' H' (ch g') b1 b2 v q
  | ex b' c =>
    refine fun σ F' H' g' _ z => ?_
    obtain ⟨b1, b2⟩ := bat z
    exact k F' H' (ch g') b1 b2
structure CalB (P : Program) (w : World) (K : PySem.W.Frag) (mg : Mg) (base : Heap) (k : Nat) (name : Str) (ps : List Str) (m : Big → List Sl → R ResB) : Prop where
  ex : ∃ (fa : Addr) (fd : FuncData), FnB P w K mg base k fa fd ps m ∧ mg name = some (.ref fa) ∧ PySem.W.keepIn K (.ref fa) = true ∧ Binds K fd ps []
theorem calB_mk {P : Program} {w : World} {K : PySem.W.Frag} {mg : Mg} {base : Heap} {x : Str} {st : Stmt} {fa : Addr} {fd : FuncData} {N ps : List Str} {k : Nat} {g : Ev → R Out} (F : FnP K x st fa fd) (hm : mg x = some (.ref fa)) (S : FnScope N ps (defScope st))
    (hbind : ∀ (kV doc pm : Value) (an : Option Addr) (cdv ct : Value) (us : List Value), us.length = ps.length → bindArgs (PySem.W.fnOf x x (defArgs st) (defBody st) (defScope st) .none kV doc pm an cdv ct) ⟨us, []⟩ = pure (ps.zip us))
    (hb : ∀ (cdv : Value) (A : Around) (outer : List Env) (s : Shared) (H : Hp) (E : XK), Room k (A.deeper (envOfC x (defScope st) s.heap.objs.size fa cdv)) → DSs (cxOf (L2.CX P w) P w K mg base N x (defScope st) fa cdv A outer s H E) (fun cls d _ H => E cls d H) (defBody st) g) :
    CalB P w K mg base (k + 1) x ps (denB N.length g) := ⟨fa, fd, fnB_ok F S hb, hm, F.kp, F.bindsN hbind⟩
/-! ### the frame's own greater thing behind such a call -/
def bigOf : Sl → R Big
  | .big b => .ok b
  | .slf b => .ok b
  | _ => .bad
def putB (j : Nat) (b : Big) (env : Ev) : Ev := match sget env j with
  | .slf _ => env.set j (.slf b)
  | _ => env.set j (.big b)
theorem Rl.chB {K : PySem.W.Frag} {mg : Mg} {F0 F H F' H' : Hp} {H0 : G0} {env : Ev} {σ : L2.St} {j : Nat} {b b' : Big} (gr : Grow F0 H0 F H) (rl : Rl K mg H0 env σ F H) (hj : bigOf (sget env j) = .ok b) :
    ∃ a, σ[j]? = some (some (.ref a)) ∧ BigAt mg F H a b ∧ ∀ F' H' b', Ch F H (fpOf H a b) F' H' → BigAt mg F' H' a b' → (∀ x ∈ fpOf H' a b', x ∈ fpOf H a b ∨ H x = none) → Grow F0 H0 F' H' ∧ Rl K mg H0 (putB j b' env) σ F' H' ∧ (∀ b0, sget env j = .slf b0 → a = H0.sa ∧ SlotR K mg H0 F' H' (.slf b') (some (.ref H0.sa))) := by
  have main : ∀ (s : Sl) (a : Addr), sget env j = s → s ≠ .emp → env[j]? = some s → σ[j]? = some (some (.ref a)) → InFp H s (some (.ref a)) = (fun x => x ∈ fpOf H a b) → (BigR mg F H a b ∧ (fpOf H a b).Nodup ∧ ∀ x ∈ fpOf H a b, H0 x = none ∧ F x = none ∧ ∃ o, H x = some o ∧ ∀ ob u, o ≠ .frz ob u) →
      ∀ (mk : Big → Sl), (∀ (F' H' : Hp) b', (BigR mg F' H' a b' ∧ (fpOf H' a b').Nodup ∧ ∀ x ∈ fpOf H' a b', H0 x = none ∧ F' x = none ∧ ∃ o, H' x = some o ∧ ∀ ob u, o ≠ .frz ob u) → SlotR K mg H0 F' H' (mk b') (some (.ref a))) → (∀ (H' : Hp) b' x, InFp H' (mk b') (some (.ref a)) x → x ∈ fpOf H' a b') →
      ∀ F' H' b', Ch F H (fpOf H a b) F' H' → BigAt mg F' H' a b' → (∀ x ∈ fpOf H' a b', x ∈ fpOf H a b ∨ H x = none) → Grow F0 H0 F' H' ∧ Rl K mg H0 (env.set j (mk b')) σ F' H' ∧ SlotR K mg H0 F' H' (mk b') (some (.ref a)) := by
    intro s a hs hse e1 e2 hin hb mk hmk hfp F' H' b' c ba nf
    have h0n : ∀ x ∈ fpOf H' a b', H0 x = none := fun x hx => by
      rcases nf x hx with z | z
      · exact (hb.2.2 x z).1
      · exact gr.h.free z
    have sl := hmk F' H' b' ⟨ba.1, ba.2.1, fun x hx => ⟨h0n x hx, ba.2.2 x hx⟩⟩
    have apj : ∀ (l : Nat) t u x, l ≠ j → env[l]? = some t → σ[l]? = some u → InFp H t u x → x ∉ fpOf H a b := fun l t u x hl h1 h2 z z' =>
      rl.ap l j t s u _ x hl h1 e1 h2 e2 z (by rw [hin]; exact z')
    have key := rl.put j (s := mk b') (w := some (.ref a)) c.f c.fh (fun x o e n => c.k x o e fun z => n s _ e1 e2 (by rw [hin]; exact z)) (fun l t u x hl h1 h2 z => by
      obtain ⟨_, f, o, ho, _⟩ := (rl.sl l t u h1 h2).part z
      cases e : F' x with
      | none => rfl
      | some o' =>
        rcases c.nw x o' e with y | y | y
        · rw [f] at y; cases y
        · rw [ho] at y; cases y
        · exact absurd y (apj l t u x hl h1 h2 z)) sl fun l t u x hl h1 h2 z z' => by
      rcases nf x (hfp _ _ _ z') with y | y
      · exact apj l t u x hl h1 h2 z y
      · exact rl.apart h1 h2 z y
    rw [set_same' e2] at key
    refine ⟨⟨gr.f.trans c.f, fun x o e => c.k x o (gr.h x o e) (fun z => by rw [(hb.2.2 x z).1] at e; cases e), c.fh, fun x o e => ?_⟩, key, sl⟩
    rcases c.nw x o e with z | z | z
    · exact gr.nw x o z
    · exact .inr (gr.h.free z)
    · exact .inr (hb.2.2 x z).1
  cases e : sget env j with
  | big b0 =>
    rw [e] at hj; cases hj
    obtain ⟨w, e1, e2, a, rfl, q⟩ := rl.at_ e (by intro z; cases z)
    refine ⟨a, e2, ⟨q.1, q.2.1, fun x hx => (q.2.2 x hx).2⟩, fun F' H' b' c ba nf => ?_⟩
    obtain ⟨k1, k2, k3⟩ := main _ a e (by intro z; cases z) e1 e2 rfl q Sl.big (fun F' H' b' h => ⟨a, rfl, h⟩) (fun _ _ _ h => h) F' H' b' c ba nf
    refine ⟨k1, ?_, fun b0 z => by cases z⟩
    unfold putB; rw [e]; exact k2
  | slf b0 =>
    rw [e] at hj; cases hj
    obtain ⟨w, e1, e2, a, rfl, es, q⟩ := rl.at_ e (by intro z; cases z)
    refine ⟨a, e2, ⟨q.1, q.2.1, fun x hx => (q.2.2 x hx).2⟩, fun F' H' b' c ba nf => ?_⟩
    obtain ⟨k1, k2, k3⟩ := main _ a e (by intro z; cases z) e1 e2 rfl q Sl.slf (fun F' H' b' h => ⟨a, rfl, es, h⟩) (fun _ _ _ h => h) F' H' b' c ba nf
    refine ⟨k1, ?_, fun b0 z => ⟨es, by rw [← es]; exact k3⟩⟩
    unfold putB; rw [e]; exact k2
  | _ => rw [e] at hj; cases hj
/-! ### f(x, ..), x changed -/
def sCallB (j n : Nat) (m : Big → List Sl → R ResB) (l : Ev → R (List Sl)) (tgt : Ev → PyData → Ev) : Ev → R Out := fun env => (bigOf (sget env j)).bind fun b => (l env).bind fun ss =>
  if ss.length + 1 = n ∧ ss.all plain = true then (noexc (m b ss)).bind fun r => match r.1 with
    | .ok d => .ok (.nx (tgt (putB j r.2 env) d))
    | .error c => match sget env j with
      | .slf _ => if j = 0 then .ok (.ex r.2 c) else .bad
      | _ => .exc c
  else .bad
section
variable {X : Cx} {W : WX} {e : Expr} {es : List Expr} {l : Ev → R (List Sl)} {pos p p1 cpos : Pos} {x y : Str} {m : Big → List Sl → R ResB} {k : Nat} {fa : Addr} {fd : FuncData} {ps : List Str}
/-- the call's reading, where what follows is tgt -/
theorem callB_run (j : Nat) {D : Ends} {σ : L2.St} {H : Hp} {tgt : Ev → PyData → Ev} {Q : VK} (pp : tDS X.K X.mg W (sCallB j ps.length m l tgt) D σ H)
    (hQ : ∀ (F0 : Hp) (H0 : G0) (F' H' : Hp) (env' : Ev) (d : PyData) (v : V), Grow F0 H0 F' H' → Rl X.K X.mg H0 env' σ F' H' → Dq F' v d → OutP X.K X.mg W F0 H0 D (.nx (tgt env' d)) → Q v H') :
    (tCallS (spB X.K X.mg m ps.length) (fun σ cls d H => W cls d σ H) (tCons (tVar j) (tDA X.K X.mg W l))) σ H Q := by
  obtain ⟨F0, H0, F, env, gr, rl, p⟩ := pp
  have p := Post.bind p
  cases hb : bigOf (sget env j) with
  | bad => rw [hb] at p; exact p.elim
  | exc c => unfold bigOf at hb; split at hb <;> cases hb
  | ok b =>
    rw [hb] at p
    obtain ⟨a, hσ, _, _⟩ := rl.chB gr hb (F' := F) (H' := H) (b' := b)
    refine ⟨_, hσ, H0, F, env, rl, (Post.bind p).mono (fun ss p1 ws F1 H1 g1 b1 => ?_) fun c k => excOn gr k⟩
    split at p1
    · rename_i hh
      have gr1 := gr.on g1
      obtain ⟨a', hσ', ba, kk⟩ := (rl.grow g1).chB gr1 hb (F' := F1) (H' := H1) (b' := b)
      rw [hσ] at hσ'
      cases hσ'
      refine ⟨F1, a, b, ws, ss, rfl, g1.fh, ba, b1, hh.1, hh.2, (noexc_post (Post.bind p1)).mono (fun r p2 F' H' c ba' nf => ?_) fun c k => k⟩
      · obtain ⟨k1, k2, k3⟩ := kk F' H' r.2 c ba' nf
        obtain ⟨r1, r2⟩ := r
        cases r1 with
        | ok d => exact fun v q => hQ F0 H0 F' H' _ d v k1 k2 q p2
        | error c =>
          dsimp only at p2 k3 ⊢
          cases e : sget env j with
          | slf b0 =>
            rw [e] at p2
            dsimp only at p2
            split at p2
            · rename_i hj0
              obtain ⟨z1, z2⟩ := k3 b0 e
              exact p2 σ F' H' k1 (by rw [← hj0, hσ, z1]) z2
            · exact p2.elim
          | big b0 =>
            rw [e] at p2
            exact p2 σ F' H' k1
          | _ => rw [e] at hb; cases hb
    · exact p1.elim
end
end L3

namespace L3
open PySem PySem.Spec PyProof.Rows L2
/-! ### calls that change their first argument, as statements -/
section
variable {X : Cx} {W : WX} {e : Expr} {es : List Expr} {l : Ev → R (List Sl)} {pos p p1 p2 cpos : Pos} {x y z : Str} {m : Big → List Sl → R ResB} {k n : Nat} {ps : List Str}
theorem ds_callB (j : Nat) (C : CalB X.prog X.w X.K X.mg X.base k x ps m) (hr : Room k X.A) (tk : Takes X W) (ha : DA X W es l) (hn : ps.length = n := by rfl) (hN : X.N[j]? = some y := by rfl) (hv : Vis X.env.scope y := by first | exact Or.inl rfl | exact Or.inr (Or.inl rfl) | exact Or.inr (Or.inr rfl)) (hd : (y == ("__debug__" : Str)) = false := by decide)
    (hcd : (y == ("__classdict__" : Str)) = false := by decide) (hg : Gl X x := by rfl) (hdb : (x == ("__debug__" : Str)) = false := by decide) (he : starEach (.Name y p1 :: es) X.env = (false, eval (.Name y p1) X.env) :: starEach es X.env := by rfl) (hpl : (backTo cpos (starEach es X.env)).any (·.1) = false := by rfl)
    (hs : swapsWith (.Call (.Name x p) (.Name y p1 :: es) [] cpos) none pos.line X.env = pure false := by rfl) : DS X W (.Expr (.Call (.Name x p) (.Name y p1 :: es) [] cpos) pos) (sCallB j n m l fun env _ => env) := by
  subst hn
  obtain ⟨fa, fd, F, hm, hk, hb⟩ := C.ex
  exact pre_S (ps_expr (pe_callS F hr hg hm hk hb (fun σ => passAt tk σ) (pa_cons (pe_var hN hv hd hcd) ha he) hdb he hpl) hs) fun D σ H pp => callB_run j pp fun F0 H0 F' H' env' d v gr rl q k => k σ F' H' gr rl
theorem ds_setCallB (i j : Nat) (hNd : X.N.Nodup) (C : CalB X.prog X.w X.K X.mg X.base k x ps m) (hr : Room k X.A) (tk : Takes X W) (ha : DA X W es l) (hn : ps.length = n := by rfl) (hN : X.N[j]? = some y := by rfl) (hv : Vis X.env.scope y := by first | exact Or.inl rfl | exact Or.inr (Or.inl rfl) | exact Or.inr (Or.inr rfl)) (hd : (y == ("__debug__" : Str)) = false := by decide)
    (hcd : (y == ("__classdict__" : Str)) = false := by decide) (hg : Gl X x := by rfl) (hdb : (x == ("__debug__" : Str)) = false := by decide) (he : starEach (.Name y p1 :: es) X.env = (false, eval (.Name y p1) X.env) :: starEach es X.env := by rfl) (hpl : (backTo cpos (starEach es X.env)).any (·.1) = false := by rfl)
    (hi : X.N[i]? = some z := by rfl) (hx : L2.Loc X.env.scope z := by first | exact Or.inl rfl | exact Or.inr rfl) (hs : swapsWith (.Call (.Name x p) (.Name y p1 :: es) [] cpos) (some (.Name z p2)) pos.line X.env = pure false := by rfl) (hf : X.fn z = true ∨ X.env.scope.names.lookup z = some .local := by first | exact .inl rfl | exact .inr rfl) :
    DS X W (.Assign [.Name z p2] (.Call (.Name x p) (.Name y p1 :: es) [] cpos) pos) (sCallB j n m l fun env d => env.set i (.val d)) := by
  subst hn
  obtain ⟨fa, fd, F, hm, hk, hb⟩ := C.ex
  exact pre_S (ps_set hNd hi hx (pe_callS F hr hg hm hk hb (fun σ => passAt tk σ) (pa_cons (pe_var hN hv hd hcd) ha he) hdb he hpl) hs hf) fun D σ H pp => callB_run j pp fun F0 H0 F' H' env' d v gr rl q k => k _ F' H' gr (rl.set i (s := .val d) ⟨v, rfl, q⟩ trivial)
end
/-! ### lists of lists -/
theorem PgA.length {F H : Hp} : ∀ {ps : List Addr} {xss : List (List PyData)}, PgA F H ps xss → ps.length = xss.length
  | _, _, .nil => rfl
  | _, _, .cons _ _ r => by rw [List.length_cons, List.length_cons, r.length]
theorem PgA.snoc {F H : Hp} {p : Addr} {vs : List V} {xs : List PyData} (hp : H p = some (.lst vs)) (q : DqA F vs xs) : ∀ {ps : List Addr} {xss : List (List PyData)}, PgA F H ps xss → PgA F H (ps ++ [p]) (xss ++ [xs])
  | _, _, .nil => .cons hp q .nil
  | _, _, .cons h1 h2 r => .cons h1 h2 (PgA.snoc hp q r)
theorem PgA.unsnoc {F H : Hp} : ∀ {ps : List Addr} {xss : List (List PyData)} {xs : List PyData}, PgA F H ps (xss ++ [xs]) → ∃ ps' p vs, ps = ps' ++ [p] ∧ PgA F H ps' xss ∧ H p = some (.lst vs) ∧ DqA F vs xs
  | _, [], xs, h => by
    cases h with
    | cons h1 h2 r =>
      cases r
      exact ⟨[], _, _, rfl, .nil, h1, h2⟩
  | _, ys :: xss, xs, h => by
    cases h with
    | cons h1 h2 r =>
      obtain ⟨ps', p, vs, rfl, k1, k2, k3⟩ := PgA.unsnoc r
      exact ⟨_ :: ps', p, vs, rfl, .cons h1 h2 k1, k2, k3⟩
theorem PgA.keep {F H H' : Hp} {ps : List Addr} {xss : List (List PyData)} (h : PgA F H ps xss) (k : ∀ p ∈ ps, ∀ o, H p = some o → H' p = some o) : PgA F H' ps xss := h.kept (Same.refl _) k
def pgsOf : Sl → R (List (List PyData))
  | .big (.pgs xss) => .ok xss
  | .slf (.pgs xss) => .ok xss
  | _ => .bad
theorem pgs_big {s : Sl} {xss : List (List PyData)} (h : pgsOf s = .ok xss) : bigOf s = .ok (.pgs xss) := by
  unfold pgsOf at h
  split at h <;> first | (cases h; rfl) | cases h
/-- xss parted at its last -/
def lastD (xss : List (List PyData)) : R (List PyData) := opt xss.getLast?
theorem lastD_ok {xss : List (List PyData)} {xs : List PyData} (h : xss.getLast? = some xs) : xss = xss.dropLast ++ [xs] := by
  obtain ⟨ys, rfl⟩ := List.getLast?_eq_some_iff.mp h
  simp
def dPgLen (i : Nat) : Ev → R PyData := fun env => (pgsOf (sget env i)).bind fun xss => (lastD xss).bind fun xs => .ok (.int xs.length)
theorem pgsOf_noexc {s : Sl} {c : Str} : pgsOf s ≠ .exc c := by unfold pgsOf; split <;> simp
theorem lastD_noexc {s : List (List PyData)} {c : Str} : lastD s ≠ .exc c := by unfold lastD opt; split <;> simp
theorem pg_run {env : Ev} {i : Nat} {α : Type} {r : List (List PyData) → List PyData → R α} {k : α → Prop} {E : Str → Prop} (p : Post ((pgsOf (sget env i)).bind fun xss => (lastD xss).bind (r xss)) k E) : ∃ xss xs, pgsOf (sget env i) = .ok (xss ++ [xs]) ∧ Post (r (xss ++ [xs]) xs) k E := by
  cases e : pgsOf (sget env i) with
  | bad => rw [e] at p; exact p.elim
  | exc c => exact absurd e pgsOf_noexc
  | ok xss =>
    rw [e] at p
    have p : Post ((lastD xss).bind (r xss)) k E := p
    cases e2 : xss.getLast? with
    | none => unfold lastD at p; rw [e2] at p; exact p.elim
    | some xs =>
      unfold lastD at p; rw [e2] at p
      have e3 := lastD_ok e2
      refine ⟨xss.dropLast, xs, by rw [← e3], ?_⟩
      rw [← e3]; exact p
section
variable {X : Cx} {W : WX} {e : Expr} {es : List Expr} {f : Ev → R PyData} {l : Ev → R (List PyData)} {pos p p1 p2 p3 p4 apos cpos : Pos} {x y z : Str} {j1 : Nat}
theorem at_m1 (ps : List Addr) (p : Addr) : atI ((ps ++ [p]).map V.ref) (-1) = some (V.ref p) := by
  unfold atI
  rw [List.length_map, List.length_append, List.length_singleton]
  have e : ixN (ps.length + 1) (-1) = some ps.length := by
    unfold ixN
    rw [if_neg (by omega)]
    first
      | (rw [if_pos (by omega)]; congr 1; omega)
      | (simp; omega)
  rw [e]
  show ((ps ++ [p]).map V.ref)[ps.length]? = _
  rw [List.getElem?_map, List.getElem?_append_right (Nat.le_refl _)]
  simp
theorem de_pgLen (i : Nat) (hm : X.mg "len" = none) (hN : X.N[i]? = some x := by rfl) (hv : Vis X.env.scope x := by first | exact Or.inl rfl | exact Or.inr (Or.inl rfl) | exact Or.inr (Or.inr rfl)) (hd : (x == ("__debug__" : Str)) = false := by decide)
    (hcd : (x == ("__classdict__" : Str)) = false := by decide) (hs : PlainIx (.UnaryOp .USub (.Constant (.int 1) j1 p4) p3) := by exact fun _ _ => rfl) (hgl : Gl X "len" := by rfl)
    (he : starEach (.Subscript (.Name x p1) (.UnaryOp .USub (.Constant (.int 1) j1 p4) p3) p2 :: []) X.env = (false, eval (.Subscript (.Name x p1) (.UnaryOp .USub (.Constant (.int 1) j1 p4) p3) p2) X.env) :: starEach [] X.env := by rfl) (hpl : (backTo pos (starEach [] X.env)).any (·.1) = false := by rfl) :
    DE X W (.Call (.Name "len" p) [.Subscript (.Name x p1) (.UnaryOp .USub (.Constant (.int 1) j1 p4) p3) p2] [] pos) (dPgLen i) :=
  pre_E (pe_callB call_len_seq hgl hm boot_len (pa_cons (pe_ix ix_list (pe_var hN hv hd hcd) (pe_un un_neg pe_int) hs) pa_nil he) (by decide) (by decide) he hpl) fun σ H Q ⟨H0, F, env, rl, p⟩ => by
  obtain ⟨xss, xs, e1, p⟩ := pg_run p
  have hb := pgs_big e1
  cases e2 : sget env i with
  | big b =>
    rw [e2] at hb; cases hb
    obtain ⟨a, h1, ⟨ps, h2, h3⟩, _, _⟩ := rl.big e2
    obtain ⟨ps', q, vs, rfl, k1, k2, k3⟩ := h3.unsnoc
    refine ⟨_, h1, 1, rfl, a, _, -1, _, rfl, rfl, .inl (.inl h2), at_m1 ps' q, q, vs, rfl, .inl (.inl (.inl k2)), ?_⟩
    rw [k3.length]
    exact p _ F H (.refl rl.fh) (.int _)
  | slf b =>
    rw [e2] at hb; cases hb
    obtain ⟨h1, ⟨ps, h2, h3⟩, _, _⟩ := rl.slf e2
    obtain ⟨ps', q, vs, rfl, k1, k2, k3⟩ := h3.unsnoc
    refine ⟨_, h1, 1, rfl, _, _, -1, _, rfl, rfl, .inl (.inl h2), at_m1 ps' q, q, vs, rfl, .inl (.inl (.inl k2)), ?_⟩
    rw [k3.length]
    exact p _ F H (.refl rl.fh) (.int _)
  | _ => rw [e2] at hb; cases hb
/-- xss[-1].append(e) -/
def sPgApp (i : Nat) (f : Ev → R PyData) : Ev → R Out := fun env => (pgsOf (sget env i)).bind fun xss => (lastD xss).bind fun xs => (f env).bind fun d => if xs.length ≤ BIG then .ok (.nx (putB i (.pgs (xss.dropLast ++ [xs ++ [d]])) env)) else .bad
theorem ds_pgApp (i : Nat) (he : DE X W e f) (hN : X.N[i]? = some x := by rfl) (hv : Vis X.env.scope x := by first | exact Or.inl rfl | exact Or.inr (Or.inl rfl) | exact Or.inr (Or.inr rfl)) (hd : (x == ("__debug__" : Str)) = false := by decide) (hcd : (x == ("__classdict__" : Str)) = false := by decide) (hsx : PlainIx (.UnaryOp .USub (.Constant (.int 1) j1 p4) p3) := by exact fun _ _ => rfl)
    (hse : starEach (e :: []) X.env = (false, eval e X.env) :: starEach [] X.env := by rfl)
    (hbase : attributeBase (.Subscript (.Name x p1) (.UnaryOp .USub (.Constant (.int 1) j1 p4) p3) p2) "append" X.env (eval (.Subscript (.Name x p1) (.UnaryOp .USub (.Constant (.int 1) j1 p4) p3) p2) X.env) = eval (.Subscript (.Name x p1) (.UnaryOp .USub (.Constant (.int 1) j1 p4) p3) p2) X.env := by rfl)
    (hfew : ((backTo cpos (starEach (e :: []) X.env)).all (fun x => !x.1) && (backToKw cpos (keywordEach [] X.env)).all (fun x => x.1.isSome)
      && decide ((e :: []).length + ([] : List Keyword).length + (if ([] : List Keyword).isEmpty then 0 else 1) < 30)) = true := by rfl)
    (hline : (apos.endLine == cpos.line) = true := by rfl) (hplain : (backTo cpos (starEach [] X.env)).any (·.1) = false := by rfl)
    (hs : swapsWith (.Call (.Attribute (.Subscript (.Name x p1) (.UnaryOp .USub (.Constant (.int 1) j1 p4) p3) p2) "append" apos) [e] [] cpos) none pos.line X.env = pure false := by rfl) :
    DS X W (.Expr (.Call (.Attribute (.Subscript (.Name x p1) (.UnaryOp .USub (.Constant (.int 1) j1 p4) p3) p2) "append" apos) [e] [] cpos) pos) (sPgApp i f) :=
  pre_S (ps_expr (pe_bm PySem.F.plainAttrs_list PySem.F.slot_list_append PySem.F.type_list_append mt_append (pe_ix ix_list (pe_var hN hv hd hcd) (pe_un un_neg pe_int) hsx) (pa_cons he pa_nil hse) hbase hfew hline hse hplain) hs) fun D σ H ⟨F0, H0, F, env, gr, rl, p⟩ => by
  obtain ⟨xss, xs, e1, p⟩ := pg_run p
  have hb := pgs_big e1
  obtain ⟨a, hσ, ba, _⟩ := rl.chB gr hb (F' := F) (H' := H) (b' := .pgs [])
  obtain ⟨⟨ps, h2, h3⟩, nd, _⟩ := id ba
  obtain ⟨ps', q, vs, rfl, k1, k2, k3⟩ := h3.unsnoc
  refine ⟨_, hσ, 1, rfl, a, _, -1, _, rfl, rfl, .inl (.inl h2), at_m1 ps' q, .inl ⟨rfl, vs, .inl (.inl k2)⟩, H0, F, env, rl, (Post.bind p).mono (fun d p1 v F1 H1 g1 qd => ?_) fun c k => excOn gr k⟩
  split at p1
  · rename_i hh
    have gr1 := gr.on g1
    obtain ⟨a', hσ', ba1, kk⟩ := (rl.grow g1).chB gr1 hb (F' := F1) (H' := H1) (b' := .pgs [])
    rw [hσ] at hσ'; cases hσ'
    have e2 := fpOf_pgs (xss := xss ++ [xs]) (g1.h _ _ h2)
    have e0 := fpOf_pgs (xss := xss ++ [xs]) h2
    have nd : (a :: (ps' ++ [q])).Nodup := by rw [← e0]; exact nd
    have na : a ≠ q := fun z => by
      rw [List.nodup_cons] at nd
      exact nd.1 (by rw [z]; simp)
    have nps : ∀ p ∈ ps', p ≠ q := fun p hp z => by
      rw [List.nodup_cons, List.nodup_append] at nd
      exact nd.2.2.2 p hp q (by simp) z
    have hqfp : q ∈ fpOf H1 a (.pgs (xss ++ [xs])) := by rw [e2]; simp
    have hq := ba1.2.2 q hqfp
    have h2' : upd H1 q (.lst (vs ++ [v])) a = some (.lst ((ps' ++ [q]).map V.ref)) := by rw [upd_ne na]; exact g1.h _ _ h2
    have e3 := fpOf_pgs (xss := xss ++ [xs ++ [d]]) h2'
    refine ⟨q, vs, v, rfl, rfl, g1.h _ _ k2, by rw [k3.length]; exact big_lt hh, ?_⟩
    obtain ⟨z1, z2, _⟩ := kk F1 (upd H1 q (.lst (vs ++ [v]))) (.pgs (xss ++ [xs ++ [d]])) ⟨Same.refl _, fun x o e => by
        have nx : x ≠ q := fun z => by rw [z, hq.1] at e; cases e
        rw [upd_ne nx]; exact g1.fh x o e, fun x o e n => by
        have nx : x ≠ q := fun z => n (by rw [z]; exact hqfp)
        rw [upd_ne nx]; exact e, fun x o e => .inl e⟩
      ⟨⟨_, h2', PgA.snoc upd_same ((k3.mono g1.f).append (.cons qd .nil)) ((k1.kept g1.f fun p hp o z => by rw [upd_ne (nps p hp)]; exact g1.h _ _ z))⟩, by rw [e3]; exact nd, fun x hx => by
        rw [e3] at hx
        have hx' : x ∈ fpOf H1 a (.pgs (xss ++ [xs])) := by rw [e2]; exact hx
        obtain ⟨c1, o, c2, c3⟩ := ba1.2.2 x hx'
        refine ⟨c1, ?_⟩
        by_cases hxq : x = q
        · subst hxq; exact ⟨_, upd_same, fun _ _ z => by cases z⟩
        · exact ⟨o, by rw [upd_ne hxq]; exact c2, c3⟩⟩ (fun x hx => .inl (by rw [e2]; rw [e3] at hx; exact hx))
    have p1 : OutP X.K X.mg W F0 H0 D (.nx (putB i (.pgs ((xss ++ [xs]).dropLast ++ [xs ++ [d]])) env)) := p1
    rw [List.dropLast_concat] at p1
    exact p1 σ F1 _ z1 z2
  · exact p1.elim
/-- xss.append([..]) -/
def sPgPush (i : Nat) (l : Ev → R (List PyData)) : Ev → R Out := fun env => (pgsOf (sget env i)).bind fun xss => (l env).bind fun ds => if ds.length ≤ BIG ∧ xss.length ≤ BIG then .ok (.nx (putB i (.pgs (xss ++ [ds])) env)) else .bad
theorem ds_pgPush (i : Nat) (he : DL X W es l) (hN : X.N[i]? = some x := by rfl) (hv : Vis X.env.scope x := by first | exact Or.inl rfl | exact Or.inr (Or.inl rfl) | exact Or.inr (Or.inr rfl)) (hd : (x == ("__debug__" : Str)) = false := by decide) (hcd : (x == ("__classdict__" : Str)) = false := by decide)
    (hse : starEach (.List es p3 :: []) X.env = (false, eval (.List es p3) X.env) :: starEach [] X.env := by rfl)
    (hbase : attributeBase (.Name x p1) "append" X.env (eval (.Name x p1) X.env) = eval (.Name x p1) X.env := by rfl)
    (hfew : ((backTo cpos (starEach (.List es p3 :: []) X.env)).all (fun x => !x.1) && (backToKw cpos (keywordEach [] X.env)).all (fun x => x.1.isSome)
      && decide ((Expr.List es p3 :: []).length + ([] : List Keyword).length + (if ([] : List Keyword).isEmpty then 0 else 1) < 30)) = true := by rfl)
    (hline : (apos.endLine == cpos.line) = true := by rfl) (hplain : (backTo cpos (starEach [] X.env)).any (·.1) = false := by rfl)
    (hs : swapsWith (.Call (.Attribute (.Name x p1) "append" apos) [.List es p3] [] cpos) none pos.line X.env = pure false := by rfl) :
    DS X W (.Expr (.Call (.Attribute (.Name x p1) "append" apos) [.List es p3] [] cpos) pos) (sPgPush i l) :=
  pre_S (ps_expr (pe_bm PySem.F.plainAttrs_list PySem.F.slot_list_append PySem.F.type_list_append mt_append (pe_var hN hv hd hcd) (pa_cons (pe_lst he) pa_nil hse) hbase hfew hline hse hplain) hs) fun D σ H ⟨F0, H0, F, env, gr, rl, p⟩ => by
  have p := Post.bind p
  cases e1 : pgsOf (sget env i) with
  | bad => rw [e1] at p; exact p.elim
  | exc c => exact absurd e1 pgsOf_noexc
  | ok xss =>
    rw [e1] at p
    have hb := pgs_big e1
    obtain ⟨a, hσ, ba, _⟩ := rl.chB gr hb (F' := F) (H' := H) (b' := .pgs [])
    obtain ⟨⟨ps, h2, h3⟩, nd, _⟩ := id ba
    refine ⟨_, hσ, .inl ⟨rfl, _, .inl (.inl h2)⟩, H0, F, env, rl, (Post.bind p).mono (fun ds p1 vs F1 H1 g1 qd => ?_) fun c k => excOn gr k⟩
    split at p1
    · rename_i hh
      have gr1 := gr.on g1
      obtain ⟨a', hσ', ba1, kk⟩ := (rl.grow g1).chB gr1 hb (F' := F1) (H' := H1) (b' := .pgs [])
      rw [hσ] at hσ'; cases hσ'
      have h21 := g1.h _ _ h2
      have e2 := fpOf_pgs (xss := xss) h21
      refine ⟨by rw [qd.length]; exact big_le hh.1, fun q nq => ?_⟩
      have naq : a ≠ q := fun z => by rw [z] at h21; rw [nq] at h21; cases h21
      have np : ∀ p ∈ ps, p ≠ q := fun p hp z => by
        obtain ⟨_, o, ho, _⟩ := ba1.2.2 p (by rw [e2]; exact List.mem_cons_of_mem _ hp)
        rw [z, nq] at ho; cases ho
      have npa : ∀ p ∈ ps, p ≠ a := fun p hp z => by
        have := ba1.2.1
        rw [e2, List.nodup_cons] at this
        exact this.1 (by rw [← z]; exact hp)
      refine ⟨a, ps.map V.ref, .ref q, rfl, rfl, by rw [upd_ne naq]; exact h21, by rw [List.length_map, h3.length]; exact big_lt hh.2, ?_⟩
      have h2' : upd (upd H1 q (.lst vs)) a (.lst (ps.map V.ref ++ [.ref q])) a = some (.lst ((ps ++ [q]).map V.ref)) := by rw [upd_same, List.map_append]; rfl
      have e3 := fpOf_pgs (xss := xss ++ [ds]) h2'
      have hfa := ba1.2.2 a fpOf_self
      have hother : ∀ x o, x ≠ a → x ≠ q → H1 x = some o → upd (upd H1 q (.lst vs)) a (.lst (ps.map V.ref ++ [.ref q])) x = some o := fun x o n1 n2 e => by rw [upd_ne n1, upd_ne n2]; exact e
      have hq' : upd (upd H1 q (.lst vs)) a (.lst (ps.map V.ref ++ [.ref q])) q = some (.lst vs) := by rw [upd_ne (Ne.symm naq), upd_same]
      obtain ⟨z1, z2, _⟩ := kk F1 (upd (upd H1 q (.lst vs)) a (.lst (ps.map V.ref ++ [.ref q]))) (.pgs (xss ++ [ds])) ⟨Same.refl _, fun x o e => hother x o (fun z => by rw [z, hfa.1] at e; cases e) (fun z => by rw [z, g1.fh.free nq] at e; cases e) (g1.fh x o e), fun x o e n => hother x o (fun z => n (by rw [z]; exact fpOf_self)) (fun z => by rw [z, nq] at e; cases e) e, fun x o e => .inl e⟩
        ⟨⟨_, h2', PgA.snoc hq' qd (h3.kept g1.f fun p hp o z => hother p o (npa p hp) (np p hp) (g1.h _ _ z))⟩, by
          rw [e3]
          have n1 := ba1.2.1
          rw [e2] at n1
          rw [List.nodup_cons] at n1
          rw [List.nodup_cons, List.nodup_append]
          refine ⟨fun z => ?_, n1.2, by simp, fun p hp p' hp' => ?_⟩
          · rcases List.mem_append.mp z with z | z
            · exact n1.1 z
            · exact naq (by simpa using z)
          · rw [List.mem_singleton.mp hp']; exact np p hp, fun x hx => by
          rw [e3] at hx
          rcases List.mem_cons.mp hx with rfl | hx
          · exact ⟨hfa.1, _, upd_same, fun _ _ z => by cases z⟩
          · rcases List.mem_append.mp hx with hx | hx
            · obtain ⟨c1, o, c2, c3⟩ := ba1.2.2 x (by rw [e2]; exact List.mem_cons_of_mem _ hx)
              exact ⟨c1, o, hother x o (npa x hx) (np x hx) c2, c3⟩
            · rw [List.mem_singleton.mp hx]
              exact ⟨g1.fh.free nq, _, hq', fun _ _ z => by cases z⟩⟩ (fun x hx => by
          rw [e3] at hx
          rcases List.mem_cons.mp hx with rfl | hx
          · exact .inl fpOf_self
          · rcases List.mem_append.mp hx with hx | hx
            · exact .inl (by rw [e2]; exact List.mem_cons_of_mem _ hx)
            · rw [List.mem_singleton.mp hx]; exact .inr nq)
      exact p1 σ F1 _ z1 z2
    · exact p1.elim
/-- x = [], a list of lists to be -/
def sPgNil (i : Nat) : Ev → R Out := fun env => .ok (.nx (env.set i (.big (.pgs []))))
theorem ds_pgNil (i : Nat) (hN : X.N.Nodup) (hi : X.N[i]? = some x := by rfl) (hx : L2.Loc X.env.scope x := by first | exact Or.inl rfl | exact Or.inr rfl) (hs : swapsWith (.List [] p) (some (.Name x p2)) pos.line X.env = pure false := by rfl)
    (hf : X.fn x = true ∨ X.env.scope.names.lookup x = some .local := by first | exact .inl rfl | exact .inr rfl) : DS X W (.Assign [.Name x p2] (.List [] p) pos) (sPgNil i) := pre_S (ps_set hN hi hx (pe_lst pa_nil) hs hf) fun D σ H ⟨F0, H0, F, env, gr, rl, p⟩ => by
  refine ⟨Nat.zero_le _, fun q nq => ?_⟩
  have p : OutP X.K X.mg W F0 H0 D (.nx (env.set i (.big (.pgs [])))) := p
  have hu : Same H (upd H q (.lst [])) := same_upd (Same.refl H) nq
  have e3 := fpOf_pgs (xss := []) (H := upd H q (.lst [])) (a := q) (ps := []) upd_same
  refine p _ F _ ⟨gr.f, gr.h.trans hu, rl.fh.trans hu, gr.nw⟩ (rl.put i (Same.refl _) (rl.fh.trans hu) (fun x o e _ => hu x o e) (fun j t u x _ h1 h2 z => ((rl.sl j t u h1 h2).part z).2.1) ⟨q, rfl, ⟨[], upd_same, .nil⟩, by rw [e3]; simp, fun x hx => ?_⟩ fun j t u x _ h1 h2 z z' => ?_)
  · rw [e3] at hx
    rw [List.mem_singleton.mp hx]
    exact ⟨gr.h.free nq, rl.fh.free nq, _, upd_same, fun _ _ z => by cases z⟩
  · have z' : x ∈ fpOf (upd H q (.lst [])) q (.pgs []) := z'
    rw [e3] at z'
    rw [List.mem_singleton.mp z'] at z
    exact rl.apart h1 h2 z nq
/-- x = [[..]] -/
def sPgNew (i : Nat) (l : Ev → R (List PyData)) : Ev → R Out := fun env => (l env).bind fun ds => if ds.length ≤ BIG then .ok (.nx (env.set i (.big (.pgs [ds])))) else .bad
theorem ds_pgNew (i : Nat) (hN : X.N.Nodup) (he : DL X W es l) (hi : X.N[i]? = some x := by rfl) (hx : L2.Loc X.env.scope x := by first | exact Or.inl rfl | exact Or.inr rfl) (hs : swapsWith (.List [.List es p1] p) (some (.Name x p2)) pos.line X.env = pure false := by rfl)
    (hse : starEach (.List es p1 :: []) X.env = (false, eval (.List es p1) X.env) :: starEach [] X.env := by rfl)
    (hf : X.fn x = true ∨ X.env.scope.names.lookup x = some .local := by first | exact .inl rfl | exact .inr rfl) : DS X W (.Assign [.Name x p2] (.List [.List es p1] p) pos) (sPgNew i l) := pre_S (ps_set hN hi hx (pe_lst (pa_cons (pe_lst he) pa_nil hse)) hs hf) fun D σ H ⟨F0, H0, F, env, gr, rl, p⟩ => by
  refine ⟨H0, F, env, rl, (Post.bind p).mono (fun ds p1 vs F1 H1 g1 qd => ?_) fun c k => excOn gr k⟩
  split at p1
  · rename_i hh
    have gr1 := gr.on g1
    have rl1 := rl.grow g1
    refine ⟨by rw [qd.length]; exact big_le hh, fun q nq => ⟨by show 1 ≤ sizeLine; rw [sizeLine_eq]; decide, fun a na => ?_⟩⟩
    have naq : q ≠ a := fun z => by rw [← z, upd_same] at na; cases na
    have na1 : H1 a = none := by rw [upd_ne (Ne.symm naq)] at na; exact na
    have hu : Same H1 (upd (upd H1 q (.lst vs)) a (.lst [.ref q])) := (same_upd (Same.refl H1) nq).trans (same_upd (Same.refl _) na)
    have h2' : upd (upd H1 q (.lst vs)) a (.lst [.ref q]) a = some (.lst ([q].map V.ref)) := upd_same
    have hq' : upd (upd H1 q (.lst vs)) a (.lst [.ref q]) q = some (.lst vs) := by rw [upd_ne naq, upd_same]
    have e3 := fpOf_pgs (xss := [ds]) h2'
    refine p1 _ F1 _ ⟨gr1.f, gr1.h.trans hu, rl1.fh.trans hu, gr1.nw⟩ (rl1.put i (Same.refl _) (rl1.fh.trans hu) (fun x o e _ => hu x o e) (fun j t u x _ h1 h2 z => ((rl1.sl j t u h1 h2).part z).2.1) ⟨a, rfl, ⟨[q], h2', .cons hq' qd .nil⟩, by rw [e3]; simp [Ne.symm naq], fun x hx => ?_⟩ fun j t u x _ h1 h2 z z' => ?_)
    · rw [e3] at hx
      rcases List.mem_cons.mp hx with rfl | hx
      · exact ⟨gr1.h.free na1, rl1.fh.free na1, _, upd_same, fun _ _ z => by cases z⟩
      · rw [List.mem_singleton.mp hx]
        exact ⟨gr1.h.free nq, rl1.fh.free nq, _, hq', fun _ _ z => by cases z⟩
    · have z' : x ∈ fpOf (upd (upd H1 q (.lst vs)) a (.lst [.ref q])) a (.pgs [ds]) := z'
      rw [e3] at z'
      rcases List.mem_cons.mp z' with rfl | z'
      · exact rl1.apart h1 h2 z na1
      · rw [List.mem_singleton.mp z'] at z
        exact rl1.apart h1 h2 z nq
  · exact p1.elim
/-! a list of lists frozen -/
def freezeP (i : Nat) (env : Ev) : R Ev := match sget env i with
  | .big (.pgs xss) => .ok (env.set i (.val (.list (xss.map .list))))
  | .val d => .ok env
  | _ => .bad
theorem PgA.frz {F H : Hp} {G : Hp} (hF : Same F G) : ∀ {ps : List Addr} {xss : List (List PyData)}, PgA F H ps xss → (∀ p ∈ ps, ∀ o, H p = some o → G p = some o) → DqA G (ps.map V.ref) (xss.map PyData.list)
  | _, _, .nil, _ => .nil
  | _, _, .cons h q r, k => .cons (.lst (k _ List.mem_cons_self _ h) (q.mono hF)) (PgA.frz hF r fun p hp => k p (List.mem_cons_of_mem _ hp))
def sFreezeP (i : Nat) (g : Ev → R Out) : Ev → R Out := fun env => (freezeP i env).bind g
theorem freezeP_run {D : Ends} {σ : L2.St} {H : Hp} {i : Nat} {g : Ev → R Out} (p : tDS X.K X.mg W (sFreezeP i g) D σ H) : tDS X.K X.mg W g D σ H := by
  obtain ⟨F0, H0, F, env, gr, rl, p⟩ := p
  have p := Post.bind p
  unfold freezeP at p
  cases e : sget env i with
  | big b =>
    cases b with
    | pgs xss =>
      rw [e] at p
      obtain ⟨w, e1, e2, a, rfl, ⟨ps, h2, h3⟩, nd, c⟩ := rl.at_ e (by intro z; cases z)
      have ef := fpOf_pgs (xss := xss) h2
      let G : Hp := fun x => if x ∈ fpOf H a (.pgs xss) then H x else F x
      have gi : ∀ x, x ∈ fpOf H a (.pgs xss) → G x = H x := fun x hx => if_pos hx
      have go : ∀ x, x ∉ fpOf H a (.pgs xss) → G x = F x := fun x hx => if_neg hx
      have hF : Same F G := fun x o z => by
        have nx : x ∉ fpOf H a (.pgs xss) := fun y => by rw [(c x y).2.1] at z; cases z
        rw [go x nx]; exact z
      have fh' : Same G H := fun x o z => by
        by_cases hx : x ∈ fpOf H a (.pgs xss)
        · rw [gi x hx] at z; exact z
        · rw [go x hx] at z; exact rl.fh x o z
      have dq : Dq G (.ref a) (.list (xss.map .list)) := .lst (by rw [gi a fpOf_self]; exact h2) (h3.frz hF fun p hp o z => by rw [gi p (by rw [ef]; exact List.mem_cons_of_mem _ hp)]; exact z)
      have key := rl.put i (s := .val (.list (xss.map .list))) (w := some (.ref a)) hF fh' (fun x o e _ => e) (fun j t u x hj h1 h2 z => by
        have nx : x ∉ fpOf H a (.pgs xss) := fun y => rl.ap j i t _ u _ x hj h1 e1 h2 e2 z y
        rw [go x nx]
        exact ((rl.sl j t u h1 h2).part z).2.1) ⟨_, rfl, dq⟩ fun j t u x _ _ _ _ z => z
      rw [set_same' e2] at key
      refine ⟨F0, H0, G, _, ⟨gr.f.trans hF, gr.h, fh', fun x o z => ?_⟩, key, p⟩
      by_cases hx : x ∈ fpOf H a (.pgs xss)
      · exact .inr (c x hx).1
      · rw [go x hx] at z; exact gr.nw x o z
    | dct _ => rw [e] at p; exact p.elim
    | dtp _ => rw [e] at p; exact p.elim
    | ins _ _ => rw [e] at p; exact p.elim
  | val d =>
    rw [e] at p
    exact ⟨F0, H0, F, env, gr, rl, p⟩
  | _ => rw [e] at p; exact p.elim
theorem dss_freezeP {sts : List Stmt} {g : Ev → R Out} (i : Nat) (h1 : DSs X W sts g) : DSs X W sts (sFreezeP i g) := pre_Ss h1 fun D σ H p => freezeP_run p
end
end L3

namespace L3
open PySem PySem.Spec PyProof.Rows L2
/-! ### with_paragraph: the last of the pages has a name of its own while the def runs -/
abbrev rLenQ (K : PySem.W.Frag) : List V → Hp → VK → Prop := fun xs H Q => ∃ p ys, xs = [.ref p] ∧ (SqL K H p ys ∨ SqT K H p ys) ∧ Q (.int ys.length) H
def tPush (K : PySem.W.Frag) : TS := tSeq (tAsg (tLst tNil) (gName 3)) (tDrop (tBM K "list" rAppend (tVar 0) (tCons (tVar 3) tNil)))
def tWP (K : PySem.W.Frag) : TS :=
  (tSeq (tAsg (tOp (rIxL K) (tVar 0) (tUn (rU fun i => .int (-i)) (tC (.int 1)))) (gName 3)) (tSeq (tAsg (tOp (rI0 fun i j => .int (i - j)) (tVar 2) (tCB (rLenQ K) (tCons (tVar 3) tNil))) (gName 4))
    (tSeq (tIfS (tOr (tTest (tOp rEq (tVar 4) (tC (.int 0)))) (tAnd (tTest (tOp rEq (tVar 4) (tC (.int 1)))) (tTest (tOp (rI0 fun i j => .bl (decide (j < i))) (tCB (rLenQ K) (tCons (tVar 1) tNil)) (tC (.int 1)))))) (tPush K) tNext)
      (tFor (iSeq K (tVar 1)) (gName 5) (tSeq (tIfS (tTest (tOp rEq (tCB (rLenQ K) (tCons (tVar 3) tNil)) (tVar 2))) (tPush K) tNext) (tDrop (tBM K "list" rAppend (tVar 3) (tCons (tVar 5) tNil))))))))
theorem iteTe {c : Bool} {p q : Prop} (h : c = true) (x : p) : if c = true then p else q := by rw [if_pos h]; exact x
theorem iteFe {c : Bool} {p q : Prop} (h : c = false) (x : q) : if c = true then p else q := by rw [if_neg (by rw [h]; decide)]; exact x
/-- what holds on the way -/
structure WpS (F H0 : Hp) (fp0 : List Addr) (a : Addr) (rv : V) (high : Int) (xss : List (List PyData)) (xs : List PyData) (σ : L2.St) (H : Hp) : Prop where
  fh : Same F H
  kp : ∀ x o, H0 x = some o → x ∉ fp0 → H x = some o
  st : ∃ ps p vs u4 u5, σ = [some (.ref a), some rv, some (.int high), some (.ref p), u4, u5] ∧ H a = some (.lst ((ps ++ [p]).map V.ref)) ∧ PgA F H ps xss ∧ H p = some (.lst vs) ∧ DqA F vs xs ∧ (a :: (ps ++ [p])).Nodup ∧ ∀ x ∈ a :: (ps ++ [p]), F x = none ∧ (x ∈ fp0 ∨ H0 x = none)
section
variable {F H0 H : Hp} {fp0 : List Addr} {a : Addr} {rv : V} {high : Int} {xss : List (List PyData)} {xs : List PyData} {σ : L2.St} {K : PySem.W.Frag}
theorem PgA.at_ : ∀ {ps : List Addr} {xss : List (List PyData)}, PgA F H ps xss → ∀ p ∈ ps, ∃ vs, H p = some (.lst vs)
  | _, _, .cons h _ r, p, hp => by
    rcases List.mem_cons.mp hp with rfl | hp
    · exact ⟨_, h⟩
    · exact r.at_ p hp
/-- a new last page -/
theorem WpS.push {D : Ends} (w : WpS F H0 fp0 a rv high xss xs σ H) (hl : xss.length ≤ BIG) (k : ∀ σ' H', WpS F H0 fp0 a rv high (xss ++ [xs]) [] σ' H' → σ'[5]? = σ[5]? → D.nx σ' H') : tPush K D σ H := by
  obtain ⟨fh, kp, ps, p, vs, u4, u5, rfl, ha, hps, hp, hv, nd, hx⟩ := w
  refine ⟨Nat.zero_le _, fun q nq => ?_⟩
  have naq : a ≠ q := fun z => by rw [z] at ha; rw [nq] at ha; cases ha
  have npq : p ≠ q := fun z => by rw [z] at hp; rw [nq] at hp; cases hp
  have hmem : ∀ p' ∈ ps, p' ≠ q := fun p' h z => by obtain ⟨vs, e⟩ := hps.at_ p' h; rw [z, nq] at e; cases e
  have nd' := nd
  rw [List.nodup_cons, List.nodup_append] at nd'
  have nps : ∀ p' ∈ ps, p' ≠ a := fun p' h z => nd'.1 (by rw [← z]; simp [h])
  have npa : p ≠ a := fun z => nd'.1 (by rw [← z]; simp)
  have ha' : upd H q (.lst []) a = some (.lst ((ps ++ [p]).map V.ref)) := by rw [upd_ne naq]; exact ha
  refine ⟨_, rfl, .inl ⟨rfl, _, .inl (.inl ha')⟩, _, rfl, a, _, .ref q, rfl, rfl, ha', ?_, ?_⟩
  · rw [List.length_map, List.length_append, hps.length]
    show _ + 1 < _
    refine Nat.lt_of_le_of_lt (Nat.add_le_add_right hl 1) ?_
    rw [sizeLine_eq]; decide
  have hq : ∀ x o, x ≠ a → x ≠ q → H x = some o → upd (upd H q (.lst [])) a (.lst ((ps ++ [p]).map V.ref ++ [.ref q])) x = some o := fun x o h1 h2 e => by rw [upd_ne h1, upd_ne h2]; exact e
  refine k _ _ ⟨fun x o e => hq x o (fun z => by rw [z, (hx a List.mem_cons_self).1] at e; cases e) (fun z => by rw [z, fh.free nq] at e; cases e) (fh x o e), fun x o e n => hq x o (fun z => ?_) (fun z => ?_) (kp x o e n), ps ++ [p], q, [], u4, u5, rfl, ?_, PgA.snoc (hq _ _ npa npq hp) hv (hps.keep fun p' h o z => hq _ _ (nps p' h) (hmem p' h) z), ?_, .nil, ?_, ?_⟩ rfl
  · rcases (hx a List.mem_cons_self).2 with y | y
    · exact n (by rw [z]; exact y)
    · rw [z, y] at e; cases e
  · have := kp x o e n
    rw [z, nq] at this; cases this
  · rw [upd_same, List.map_append (l₁ := ps ++ [p])]; rfl
  · rw [upd_ne (Ne.symm naq), upd_same]
  · rw [List.nodup_cons, List.nodup_append (l₁ := ps ++ [p])]
    refine ⟨fun z => ?_, nd.tail, by simp, fun x h y h2 => ?_⟩
    · rcases List.mem_append.mp z with z | z
      · exact nd'.1 z
      · exact naq (by simpa using z)
    · rw [List.mem_singleton.mp h2]
      rcases List.mem_append.mp h with h | h
      · exact hmem x h
      · rw [List.mem_singleton.mp h]; exact npq
  · intro x h
    rcases List.mem_cons.mp h with rfl | h
    · exact hx _ List.mem_cons_self
    · rcases List.mem_append.mp h with h | h
      · exact hx x (List.mem_cons_of_mem _ h)
      · rw [List.mem_singleton.mp h]
        refine ⟨fh.free nq, ?_⟩
        cases e : H0 q with
        | none => exact .inr rfl
        | some o =>
          by_cases z : q ∈ fp0
          · exact .inl z
          · have := kp q o e z
            rw [nq] at this; cases this
/-- one row more on the last page -/
theorem WpS.app {D : Ends} {d : PyData} {v : V} (w : WpS F H0 fp0 a rv high xss xs σ H) (h5 : σ[5]? = some (some v)) (hd : Dq F v d) (hl : xs.length ≤ BIG) (k : ∀ σ' H', WpS F H0 fp0 a rv high xss (xs ++ [d]) σ' H' → D.nx σ' H') : tDrop (tBM K "list" rAppend (tVar 3) (tCons (tVar 5) tNil)) D σ H := by
  obtain ⟨fh, kp, ps, p, vs, u4, u5, rfl, ha, hps, hp, hv, nd, hx⟩ := w
  have h5 : u5 = some v := by simpa using h5
  subst h5
  have nd' := nd
  rw [List.nodup_cons, List.nodup_append] at nd'
  have nap : a ≠ p := fun z => nd'.1 (by rw [z]; simp)
  have nps : ∀ p' ∈ ps, p' ≠ p := fun p' h => nd'.2.2.2 p' h p (by simp)
  refine ⟨_, rfl, .inl ⟨rfl, _, .inl (.inl hp)⟩, _, rfl, p, vs, v, rfl, rfl, hp, by rw [hv.length]; exact big_lt hl, ?_⟩
  refine k _ _ ⟨fun x o e => ?_, fun x o e n => ?_, ps, p, vs ++ [v], u4, some v, rfl, by rw [upd_ne nap]; exact ha, hps.keep fun p' h o z => by rw [upd_ne (nps p' h)]; exact z, upd_same, hv.append (.cons hd .nil), nd, hx⟩
  · have : x ≠ p := fun z => by rw [z, (hx p (by simp)).1] at e; cases e
    rw [upd_ne this]; exact fh x o e
  · have : x ≠ p := fun z => by
      rcases (hx p (by simp)).2 with y | y
      · exact n (by rw [z]; exact y)
      · rw [z, y] at e; cases e
    rw [upd_ne this]; exact kp x o e n
end
/-- the pages but the last, and the last -/
def wpRow (high : Int) (s : List (List PyData) × List PyData) (row : PyData) : List (List PyData) × List PyData := if (s.2.length : Int) = high then (s.1 ++ [s.2], [row]) else (s.1, s.2 ++ [row])
def wpNew (high : Int) (n : Nat) (s : List (List PyData) × List PyData) : List (List PyData) × List PyData := if high - (s.2.length : Int) = 0 ∨ (high - (s.2.length : Int) = 1 ∧ 1 < n) then (s.1 ++ [s.2], []) else s
def wpD (high : Int) (rows : List PyData) (s : List (List PyData) × List PyData) : List (List PyData) × List PyData := rows.foldl (wpRow high) (wpNew high rows.length s)
def m_with_paragraph : Big → List Sl → R ResB
  | .pgs xss, [.val (.list rows), .val (.int high)] => match xss.getLast? with
    | some xs => if xss.length + rows.length + 2 ≤ BIG ∧ xs.length + rows.length + 2 ≤ BIG then .ok (.ok .none, .pgs ((wpD high rows (xss.dropLast, xs)).1 ++ [(wpD high rows (xss.dropLast, xs)).2])) else .bad
    | none => .bad
  | _, _ => .bad
theorem wpRow_len (high : Int) (s : List (List PyData) × List PyData) (row : PyData) : (wpRow high s row).1.length ≤ s.1.length + 1 ∧ (wpRow high s row).2.length ≤ s.2.length + 1 := by
  unfold wpRow; split <;> simp
theorem wpNew_len (high : Int) (n : Nat) (s : List (List PyData) × List PyData) : (wpNew high n s).1.length ≤ s.1.length + 1 ∧ (wpNew high n s).2.length ≤ s.2.length := by
  unfold wpNew; split <;> simp
theorem wpRows_len (high : Int) : ∀ (rows : List PyData) (s : List (List PyData) × List PyData), (rows.foldl (wpRow high) s).1.length ≤ s.1.length + rows.length ∧ (rows.foldl (wpRow high) s).2.length ≤ s.2.length + rows.length
  | [], s => by simp
  | r :: rows, s => by
    have h := wpRows_len high rows (wpRow high s r)
    have h2 := wpRow_len high s r
    rw [List.foldl_cons, List.length_cons]; omega
theorem wp_run {P : Program} {w : World} {K : PySem.W.Frag} {mg : Str → Option Value} {base : Heap} {k : Nat} {st : Stmt} {fa : Addr} {fd : FuncData} {N : List Str} (F : FnP K "with_paragraph" st fa fd) (hm : mg "with_paragraph" = some (.ref fa)) (S : FnScope N ["pages", "rows", "high"] (defScope st)) (hN : N.length = 6)
    (hbind : ∀ (kV doc pm : Value) (an : Option Addr) (cdv ct : Value) (us : List Value), us.length = (["pages", "rows", "high"] : List Str).length → bindArgs (PySem.W.fnOf "with_paragraph" "with_paragraph" (defArgs st) (defBody st) (defScope st) .none kV doc pm an cdv ct) ⟨us, []⟩ = pure ((["pages", "rows", "high"] : List Str).zip us))
    (hb : ∀ (cdv : Value) (A : Around) (outer : List Env) (s : Shared) (H : Hp) (E : XK), Room k (A.deeper (envOfC "with_paragraph" (defScope st) s.heap.objs.size fa cdv)) → PSs (cxOf (L2.CX P w) P w K mg base N "with_paragraph" (defScope st) fa cdv A outer s H E) (defBody st) (tWP K)) :
    CalB P w K mg base (k + 1) "with_paragraph" ["pages", "rows", "high"] m_with_paragraph := by
  refine ⟨fa, fd, ?_, hm, F.kp, F.bindsN hbind⟩
  refine FunD.ok F S (fun vs H Q E ⟨F, a, b, ws, ss, e, fh, ba, q, hl, hp, _⟩ => by rw [e, List.length_cons, q.length, hl]) fun cdv A outer s H vs Q E hr ⟨F, a, b, ws, ss, e, fh, ba, q, hl, hp, p⟩ => ?_
  subst e
  refine ⟨_, hb cdv A outer s H E hr, ?_⟩
  unfold m_with_paragraph at p
  split at p
  rotate_left
  · exact p.elim
  rename_i xss rows high
  split at p
  rotate_left
  · exact p.elim
  rename_i xs hlast
  split at p
  rotate_left
  · exact p.elim
  rename_i hsz
  obtain ⟨hs1, hs2⟩ := hsz
  have hxss := lastD_ok hlast
  match ws, q with
  | [rv, hv], q =>
  obtain ⟨q1, _, q2⟩ := q
  obtain ⟨q3, _, _⟩ := q2
  obtain ⟨rv', e1, dr⟩ := q1
  cases e1
  obtain ⟨hv', e1, dh⟩ := q3
  cases e1
  cases dh
  cases dr with
  | @lst ra rvs _ hrl hra =>
  obtain ⟨⟨pp, hA, hP⟩, nd, hfp⟩ := id ba
  rw [hxss] at hP
  obtain ⟨ps, p0, vs0, rfl, k1, k2, k3⟩ := hP.unsnoc
  have ef := fpOf_pgs (xss := xss) hA
  rw [ef] at nd hfp
  have hst : L2.start N [V.ref a, V.ref ra, V.int high] = [some (.ref a), some (.ref ra), some (.int high), none, none, none] := by
    unfold L2.start; rw [hN]; rfl
  rw [hst]
  have hnil : (xss.dropLast).length + 1 = xss.length := by
    have := congrArg List.length hxss
    simp at this ⊢; omega
  -- the end
  have fin : ∀ σ' H' s', WpS F H (a :: (ps ++ [p0])) a (.ref ra) high s'.1 s'.2 σ' H' → s' = wpD high rows (xss.dropLast, xs) → Q .non H' := fun σ' H' s' w e => by
    subst e
    obtain ⟨fh', kp', ps', p', vs', u4, u5, rfl, ha', hps', hp', hv', nd', hx'⟩ := w
    have hP' := PgA.snoc hp' hv' hps'
    have ef' := fpOf_pgs (xss := (wpD high rows (xss.dropLast, xs)).1 ++ [(wpD high rows (xss.dropLast, xs)).2]) ha'
    refine p F H' ⟨Same.refl _, fh', fun x o e n => kp' x o e (by rw [ef] at n; exact n), fun x o e => .inl e⟩ ⟨⟨_, ha', hP'⟩, by rw [ef']; exact nd', fun x hx => ?_⟩ (fun x hx => ?_) _ .non
    · rw [ef'] at hx
      refine ⟨(hx' x hx).1, ?_⟩
      rcases List.mem_cons.mp hx with rfl | hx
      · exact ⟨_, ha', fun _ _ z => by cases z⟩
      · obtain ⟨vs, e⟩ := hP'.at_ x hx
        exact ⟨_, e, fun _ _ z => by cases z⟩
    · rw [ef'] at hx; rw [ef]
      exact (hx' x hx).2
  refine ⟨_, rfl, 1, rfl, a, _, -1, _, rfl, rfl, .inl (.inl hA), at_m1 ps p0, _, rfl, _, rfl, p0, vs0, rfl, .inl (.inl (.inl k2)), high, _, rfl, rfl, ?_⟩
  rw [k3.length]
  have w0 : ∀ u4 u5, WpS F H (a :: (ps ++ [p0])) a (.ref ra) high xss.dropLast xs [some (.ref a), some (.ref ra), some (.int high), some (.ref p0), u4, u5] H := fun u4 u5 => ⟨fh, fun x o e _ => e, ps, p0, vs0, u4, u5, rfl, hA, k1, k2, k3, nd, fun x hx => ⟨(hfp x hx).1, .inl hx⟩⟩
  -- the loop
  have loop : ∀ σ' H', WpS F H (a :: (ps ++ [p0])) a (.ref ra) high (wpNew high rows.length (xss.dropLast, xs)).1 (wpNew high rows.length (xss.dropLast, xs)).2 σ' H' →
      tFor (iSeq K (tVar 1)) (gName 5) (tSeq (tIfS (tTest (tOp rEq (tCB (rLenQ K) (tCons (tVar 3) tNil)) (tVar 2))) (tPush K) tNext) (tDrop (tBM K "list" rAppend (tVar 3) (tCons (tVar 5) tNil)))) { nx := fun _ H' => Q .non H', rt := Q } σ' H' := fun σ' H' w => by
    have hσ1 : σ'[1]? = some (some (.ref ra)) := by obtain ⟨_, _, ps', p', vs', u4, u5, rfl, _⟩ := w; rfl
    have hra' : H' ra = some (.lst rvs) := w.fh _ _ hrl
    refine ⟨_, hσ1, .inl ⟨ra, rfl, ⟨rvs, .inl (.inl hra')⟩, ?_⟩⟩
    have wk := walkD_list (K := K) hrl hra
    refine ⟨fun i m σ H' => m = rows.length - i ∧ i ≤ rows.length ∧ WpS F H (a :: (ps ++ [p0])) a (.ref ra) high ((rows.take i).foldl (wpRow high) (wpNew high rows.length (xss.dropLast, xs))).1 ((rows.take i).foldl (wpRow high) (wpNew high rows.length (xss.dropLast, xs))).2 σ H', ⟨_, rfl, Nat.zero_le _, w⟩, ?_⟩
    rintro i m σ H1 ⟨rfl, hi, w1⟩
    by_cases hlt : i < rows.length
    · refine .inr ⟨wk.goes i H1 hlt w1.fh, fun σ' H' => WpS F H (a :: (ps ++ [p0])) a (.ref ra) high ((rows.take (i + 1)).foldl (wpRow high) (wpNew high rows.length (xss.dropLast, xs))).1 ((rows.take (i + 1)).foldl (wpRow high) (wpNew high rows.length (xss.dropLast, xs))).2 σ' H', fun σ' H' q => ⟨_, by omega, rfl, hlt, q⟩, fun x H2 y => ?_⟩
      have hxi : rows[i]? = some rows[i] := List.getElem?_eq_getElem hlt
      obtain ⟨e2, y2⟩ := y
      subst e2
      have dx : Dq F x rows[i] := by
        have := y2 rvs (.inl (.inl (w1.fh _ _ hrl)))
        obtain ⟨v', z1, z2⟩ := hra.get hxi
        rw [this] at z1; cases z1; exact z2
      have et : (rows.take (i + 1)).foldl (wpRow high) (wpNew high rows.length (xss.dropLast, xs)) = wpRow high ((rows.take i).foldl (wpRow high) (wpNew high rows.length (xss.dropLast, xs))) rows[i] := by
        rw [List.take_add_one, hxi, Option.toList_some, List.foldl_append]; rfl
      have l1 := wpRows_len high (rows.take i) (wpNew high rows.length (xss.dropLast, xs))
      have l2 := wpNew_len high rows.length (xss.dropLast, xs)
      have l3 : (rows.take i).length ≤ rows.length := by rw [List.length_take]; omega
      have l4 : (xss.dropLast, xs).1.length = xss.dropLast.length := rfl
      have l5 : (xss.dropLast, xs).2.length = xs.length := rfl
      rw [et]
      generalize (rows.take i).foldl (wpRow high) (wpNew high rows.length (xss.dropLast, xs)) = s1 at w1 l1 ⊢
      have w2 : WpS F H (a :: (ps ++ [p0])) a (.ref ra) high s1.1 s1.2 (σ.set 5 (some x)) H2 := by
        obtain ⟨fh', kp', ps', p', vs', u4, u5, rfl, r⟩ := w1
        exact ⟨fh', kp', ps', p', vs', u4, some x, rfl, r⟩
      have h5 : (σ.set 5 (some x))[5]? = some (some x) := by obtain ⟨_, _, ps', p', vs', u4, u5, rfl, _⟩ := w1; rfl
      obtain ⟨p', vs', z1, z2, z3, z4⟩ : ∃ p' vs', (σ.set 5 (some x))[3]? = some (some (.ref p')) ∧ H2 p' = some (.lst vs') ∧ vs'.length = s1.2.length ∧ (σ.set 5 (some x))[2]? = some (some (.int high)) := by
        obtain ⟨_, _, ps', p', vs', u4, u5, rfl, _, _, z2, z3, _⟩ := w1; exact ⟨p', vs', rfl, z2, z3.length, rfl⟩
      refine ⟨_, z1, p', vs', rfl, .inl (.inl (.inl z2)), _, z4, rfl, _, rfl, ?_⟩
      unfold wpRow
      rw [z3]
      by_cases hh : (s1.2.length : Int) = high
      · rw [if_pos hh]
        refine iteTe (decide_eq_true (congrArg V.int hh)) ?_
        refine w2.push (by omega) fun σ3 H3 w3 h3 => ?_
        have h5' : σ3[5]? = some (some x) := h3.trans h5
        exact w3.app h5' dx (Nat.zero_le _) fun σ' H' w => w
      · rw [if_neg hh]
        refine iteFe (decide_eq_false fun z => hh (by injection z)) ?_
        exact w2.app h5 dx (by omega) fun σ' H' w => w
    · have e : i = rows.length := by omega
      subst e
      refine .inl ⟨wk.stops H1 w1.fh, ?_⟩
      rw [List.take_length] at w1
      exact fin σ H1 _ w1 rfl
  have hl2 : xss.dropLast.length ≤ BIG := by omega
  unfold wpNew at loop
  dsimp only at loop
  refine ⟨_, rfl, rfl, _, rfl, ?_⟩
  by_cases h0 : high - (xs.length : Int) = 0
  · rw [if_pos (Or.inl h0)] at loop
    refine iteTe (decide_eq_true (congrArg V.int h0)) ?_
    exact iteT ((w0 _ _).push hl2 fun σ' H' w _ => loop σ' H' w)
  · refine iteFe (decide_eq_false fun z => h0 (by injection z)) ⟨_, rfl, rfl, _, rfl, ?_⟩
    by_cases h1 : high - (xs.length : Int) = 1
    · refine iteTe (decide_eq_true (congrArg V.int h1)) ⟨_, rfl, ra, rvs, rfl, .inl (.inl (.inl (fh _ _ hrl))), _, 1, rfl, rfl, _, rfl, ?_⟩
      rw [hra.length]
      by_cases h2 : 1 < rows.length
      · rw [if_pos (Or.inr ⟨h1, h2⟩)] at loop
        refine iteTe (decide_eq_true (by omega)) ?_
        exact ((w0 _ _).push hl2 fun σ' H' w _ => loop σ' H' w)
      · rw [if_neg (fun z => z.elim h0 fun z => h2 z.2)] at loop
        refine iteFe (decide_eq_false (by omega)) ?_
        exact (loop _ _ (w0 _ _))
    · rw [if_neg (fun z => z.elim h0 fun z => h1 z.1)] at loop
      refine iteFe (decide_eq_false fun z => h1 (by injection z)) ?_
      exact iteF (loop _ _ (w0 _ _))
end L3
namespace L3
open PySem PySem.Spec PyProof.Rows L2
section
variable {X : Cx} {x : Str} {e : Expr} {te : TE} {pos p cpos apos : Pos} {tb : TS} {tg : Expr} {wi : TI}
theorem vr (i : Nat) (hN : X.N[i]? = some x := by rfl) (hv : Vis X.env.scope x := by first | exact Or.inl rfl | exact Or.inr (Or.inl rfl) | exact Or.inr (Or.inr rfl)) (hd : (x == ("__debug__" : Str)) = false := by decide) (hcd : (x == ("__classdict__" : Str)) = false := by decide) : PE X (.Name x pos) (tVar i) := pe_var hN hv hd hcd
theorem lenv (hm : X.mg "len" = none) (he : PE X e te) (hgl : Gl X "len" := by rfl) (hs : starEach (e :: []) X.env = (false, eval e X.env) :: starEach [] X.env := by rfl) (hpl : (backTo pos (starEach [] X.env)).any (·.1) = false := by rfl) : PE X (.Call (.Name "len" p) [e] [] pos) (tCB (rLenQ X.K) (tCons te tNil)) :=
  pe_callB call_len_seq hgl hm boot_len (pa_cons he pa_nil hs) (by decide) (by decide) hs hpl
theorem setv (i : Nat) (hN : X.N.Nodup) (he : PE X e te) (hi : X.N[i]? = some x := by rfl) (hx : L2.Loc X.env.scope x := by first | exact Or.inl rfl | exact Or.inr rfl) (hs : swapsWith e (some (.Name x p)) pos.line X.env = pure false := by rfl)
    (hf : X.fn x = true ∨ X.env.scope.names.lookup x = some .local := by first | exact .inl rfl | exact .inr rfl) : PS X (.Assign [.Name x p] e pos) (tAsg te (gName i)) := ps_set hN hi hx he hs hf
theorem appv (i j : Nat) {y : Str} {p1 p2 : Pos} (hi : PE X (.Name x p1) (tVar i)) (hj : PE X (.Name y p2) (tVar j)) (hse : starEach (.Name y p2 :: []) X.env = (false, eval (.Name y p2) X.env) :: starEach [] X.env := by rfl)
    (hbase : attributeBase (.Name x p1) "append" X.env (eval (.Name x p1) X.env) = eval (.Name x p1) X.env := by rfl)
    (hfew : ((backTo cpos (starEach (Expr.Name y p2 :: []) X.env)).all (fun x => !x.1) && (backToKw cpos (keywordEach [] X.env)).all (fun x => x.1.isSome)
      && decide ((Expr.Name y p2 :: []).length + ([] : List Keyword).length + (if ([] : List Keyword).isEmpty then 0 else 1) < 30)) = true := by rfl)
    (hline : (apos.endLine == cpos.line) = true := by rfl) (hplain : (backTo cpos (starEach [] X.env)).any (·.1) = false := by rfl)
    (hs : swapsWith (.Call (.Attribute (.Name x p1) "append" apos) [.Name y p2] [] cpos) none pos.line X.env = pure false := by rfl) :
    PS X (.Expr (.Call (.Attribute (.Name x p1) "append" apos) [.Name y p2] [] cpos) pos) (tDrop (tBM X.K "list" rAppend (tVar i) (tCons (tVar j) tNil))) :=
  ps_expr (pe_bm PySem.F.plainAttrs_list PySem.F.slot_list_append PySem.F.type_list_append mt_append hi (pa_cons hj pa_nil hse) hbase hfew hline hse hplain) hs
theorem ixm1 {j1 : Nat} {a : Expr} {ta : TE} {p3 p4 : Pos} (ha : PE X a ta) (hs : PlainIx (.UnaryOp .USub (.Constant (.int 1) j1 p4) p3) := by exact fun _ _ => rfl) : PE X (.Subscript a (.UnaryOp .USub (.Constant (.int 1) j1 p4) p3) pos) (tOp (rIxL X.K) ta (tUn (rU fun i => .int (-i)) (tC (.int 1)))) := pe_ix ix_list ha (pe_un un_neg pe_int) hs
theorem cmpv {op : CmpOp} {r : R2} {a b : Expr} {ta tb : TE} (ho : OpR X (compareOp op) r) (ha : PE X a ta) (hb : PE X b tb) (hm : behindInMarks op b = false := by rfl) : PT X (.Compare a [op] [b] pos) (tTest (tOp r ta tb)) := pt_cmpR ho ha hb hm
theorem forv (i : Nat) {iter : Expr} {body : List Stmt} (hN : X.N.Nodup) (hp : PassesOwn (model X.prog X.w) X.A X.env X.xe) (hc : X.calm = true) (hi : PI X (.Name x p) iter wi) (hb : PSs X body tb) (hx : X.N[i]? = some x := by rfl) (hl : L2.Loc X.env.scope x := by first | exact Or.inl rfl | exact Or.inr rfl)
    (hf : X.fn x = true ∨ X.env.scope.names.lookup x = some .local := by first | exact .inl rfl | exact .inr rfl) (hs : ∀ x, foldedSetIterable iter X.env x = pure x := by intro _; rfl) : PS X (.For (.Name x p) iter body [] pos) (tFor wi (gName i) tb) := ps_for hp hc hi (pg_name hN hx hl hf) hb hs
end
end L3

namespace L3
open PySem PySem.Spec PyProof.Rows L2
/-! ### len(set(xs)), xs a list of ints -/
def metL (ns : List Int) : List Int := firstMet (fun i => ns.getD i 0) ns.length
def tLenSetA (K : PySem.W.Frag) (ta : TE) : TE := fun σ H Q => ta σ H fun x H1 => ∃ (l : Addr) (ns : List Int), x = .ref l ∧ SqL K H1 l (ns.map V.int) ∧ ns.length ≤ 1000 ∧ Q (.int ((metL ns).length : Nat)) H1
theorem metL_le (ns : List Int) : (metL ns).length ≤ ns.length := firstMet_length_le _ _
theorem vals_ints : ∀ {ns : List Int} {us : List Value}, Vals (ns.map V.int) us → PyProof.Rows.IntsAre us ns
  | [], _, .nil => .nil
  | n :: ns, _, .cons r t => by
    obtain ⟨k, rfl⟩ := r
    exact .cons n k (vals_ints t)
section
variable {X : Cx} {W : WX} {a : Expr} {ta : TE} {f : Ev → R PyData} {p p2 q pos : Pos}
theorem pe_lenSetA (hg : Gl X "len") (hm : X.mg "len" = none) (hg2 : Gl X "set") (hm2 : X.mg "set" = none) (ha : PE X a ta) (hc : X.calm = true)
    (na : starEach [a] X.env = (false, eval a X.env) :: starEach [] X.env) : PE X (.Call (.Name "len" p) [.Call (.Name "set" p2) [a] [] q] [] pos) (tLenSetA X.K ta) := by
  constructor
  intro pins s σ H Q I h
  refine Call_ (ld_blt I hg hm boot_len ?_)
  refine PyProof.Rows.callWith_builtin1 (PyProof.Rows.args_cons ?_ rfl) rfl rfl
  refine Call_ (ld_blt I hg2 hm2 boot_set ?_)
  refine PyProof.Rows.callWith_type1 (PyProof.Rows.args_cons (thn (ha.run pins s σ H _ I h) fun v s1 h1 => PyProof.Rows.args_nil ?_) na) na rfl
  obtain ⟨x, H1, I1, r1, l, ns, rfl, hq, hl, q1⟩ := h1
  cases r1
  obtain ⟨its, r, pl, hz⟩ := I1.list hq
  have hlen : its.toArray.size = ns.length := by
    have := r.length
    rw [List.length_map] at this
    rw [List.size_toArray]; exact this.symm
  have hm := metL_le ns
  refine call_set_list (I1.ok.hd hc) pl.isList (ns := ns) (by simpa using vals_ints r) (by rw [hlen]; unfold scanBound; omega) fun h' tk hS hk => PyProof.Rows.args_nil ?_
  rw [hlen] at hS
  obtain ⟨o, es, ep, t, ho, hex, hd, _, _, _, hf, hn⟩ := hS
  have I2 : Inv X pins σ H1 { s1 with heap := h', toks := tk } := I1.kept fun b o e => hk b o (Heap.lt_size e) e
  have hn' : es.size = (metL ns).length := hn
  exact call_len_set ho hex hd hf (by rw [hn']; omega) ⟨.int ((metL ns).length : Nat), H1, I2.tok _, ⟨_, by rw [hn']⟩, q1⟩
def lenSetD : PyData → R PyData
  | .list xs => (opt (intsOf xs)).bind fun ns => if ns.length ≤ 1000 then .ok (.int ((metL ns).length : Nat)) else .bad
  | _ => .bad
theorem de_lenSet (hm : X.mg "len" = none) (hm2 : X.mg "set" = none) (hc : X.calm = true) (ha : DE X W a f) (hg : Gl X "len" := by rfl) (hg2 : Gl X "set" := by rfl) (na : starEach [a] X.env = (false, eval a X.env) :: starEach [] X.env := by rfl) :
    DE X W (.Call (.Name "len" p) [.Call (.Name "set" p2) [a] [] q] [] pos) (d1 lenSetD f) := pre_E (pe_lenSetA hg hm hg2 hm2 ha hc na) fun σ H Q ⟨H0, F, env, rl, pp⟩ => by
  refine ⟨H0, F, env, rl, (Post.bind pp).mono (fun d p1 v F1 H1 g1 q => ?_) fun c p1 => p1⟩
  cases d <;> first | exact p1.elim | skip
  rename_i xs
  have p1 := Post.bind (show Post ((opt (intsOf xs)).bind _) _ _ from p1)
  cases e : intsOf xs with
  | none => rw [e] at p1; exact p1.elim
  | some ns =>
    rw [e] at p1
    have p1 : Post (if ns.length ≤ 1000 then R.ok (PyData.int ((metL ns).length : Nat)) else .bad) _ _ := p1
    split at p1
    · rename_i hl
      cases q with
      | lst h1 h2 =>
        rw [intsOf_eq e] at h2
        rw [h2.ints] at h1
        exact ⟨_, ns, rfl, .inl (.inl (g1.fh _ _ h1)), hl, p1 _ F1 H1 g1 (.int _)⟩
    · exact p1.elim
end
/-- all members alike -/
theorem met_same (c : Int) : ∀ (n : Nat), (firstMet (fun _ => c) (n + 1)) = [c]
  | 0 => rfl
  | n + 1 => by rw [firstMet_succ, met_same c n]; unfold step_dedup; simp
theorem firstMet_congr {f g : Nat → Int} : ∀ (n : Nat), (∀ i, i < n → f i = g i) → firstMet f n = firstMet g n
  | 0, _ => rfl
  | n + 1, h => by rw [firstMet_succ, firstMet_succ, firstMet_congr n fun i hi => h i (by omega), h n (by omega)]
theorem metL_one {ns : List Int} {c : Int} (h0 : ns ≠ []) (h : ∀ x ∈ ns, x = c) : metL ns = [c] := by
  unfold metL
  obtain ⟨n, hn⟩ : ∃ n, ns.length = n + 1 := ⟨ns.length - 1, by have := List.length_pos_iff.mpr h0; omega⟩
  rw [hn, firstMet_congr (g := fun _ => c) (n + 1) fun i hi => ?_, met_same]
  rw [List.getD_eq_getElem?_getD, List.getElem?_eq_getElem (by omega), Option.getD_some]
  exact h _ (List.getElem_mem _)
end L3

namespace L3
open PySem PySem.Spec PyProof.Rows L2
open PySem.W (alike dataLt)
/-! ### < of any alike data -/
def ltX : PyData → PyData → R PyData := fun d e => if shp 60 d = true ∧ shp 60 e = true ∧ alike d e = true ∧ neTup d = true then .ok (.bool (dataLt d e)) else .bad
def rLtX (K : PySem.W.Frag) : R2 := fun x y H Q => ∃ F d e, Same F H ∧ Dq F x d ∧ Dq F y e ∧ shp 60 d = true ∧ shp 60 e = true ∧ alike d e = true ∧ d ≠ .none ∧ Q (.bl (dataLt d e)) H
theorem op_ltX {X : Cx} {k : Nat} (hr : Room k X.A) : OpR X (compareOp .Lt) (rLtX X.K) := by
  intro pins s σ H x y v u Q I rx ry h
  obtain ⟨F, d, e, fh, qd, qe, h1, h2, h3, h4, q⟩ := h
  obtain ⟨as, ra⟩ := Dp.reads I d x v (Dq.dp fh d x qd) rx
  obtain ⟨bs, rb⟩ := Dp.reads I e y u (Dq.dp fh e y qe) ry
  have z1 := (shp_ok 60 d h1).2
  have z2 := hr.un
  exact PySem.W.rcLt_alike d e X.A s v u as bs ra rb h3 h4 (by have := Nat.min_le_left d.depth e.depth; omega) X.prog X.w X.xe _ ⟨.bl _, H, I, rfl, q⟩
theorem opd_ltX (K : PySem.W.Frag) : OpD (rLtX K) ltX := by
  intro F H x y d e Q E fh bx bY p
  unfold ltX at p
  split at p
  · rename_i hh
    obtain ⟨h1, h2, h3, h4⟩ := hh
    cases d <;> try cases h4
    rename_i xs
    cases e <;> try cases h3
    rename_i ys
    obtain ⟨ax, vx, rfl, fx, hx, qx⟩ := bx.tup fh
    obtain ⟨ay, vy, rfl, fy, hy, qy⟩ := bY.tup fh
    exact ⟨F, _, _, fh, .tup fx qx, .tup fy qy, h1, h2, h3, (fun z => by cases z), p _ F H (.refl fh) (.bl _)⟩
  · exact p.elim
/-! ### x or y, values -/
section
variable {X : Cx} {W : WX} {a b c e e2 : Expr} {rest : List Expr} {f g h : Ev → R PyData} {pos p p1 p2 p3 apos cpos : Pos} {x : Str} {ta tb : TE}
def tOrX (K : PySem.W.Frag) (ta tb : TE) : TE := fun σ H Q => ta σ H fun x H1 => ∃ k, TruV K x H1 k ∧ if k = true then Q x H1 else tb σ H1 Q
theorem pe_orX (ha : PE X a ta) (hb : PE X (.BoolOp .Or (b :: rest) pos) tb) : PE X (.BoolOp .Or (a :: b :: rest) pos) (tOrX X.K ta tb) := by
  refine ⟨fun pins s σ H Q I hh => ?_⟩
  refine BoolOp_or (thn (ha.run pins s σ H _ I hh) fun v s1 ⟨x, H1, I1, r1, k, hk, q1⟩ => ?_)
  refine tru_ok pins s1 σ H1 x v (fun c H' => H' = H1 ∧ c = k) I1 r1 ⟨k, hk, rfl, rfl⟩ |> fun z => thn z fun c s2 ⟨H2, I2, e1, e2⟩ => ?_
  subst e1; subst e2
  cases c with
  | true => exact ⟨x, H2, I2, r1, q1⟩
  | false => exact hb.run pins s2 σ H2 Q I2 q1
def dOrX (f g : Ev → R PyData) : Ev → R PyData := fun env => (f env).bind fun x => (truthD x).bind fun k => if k = true then .ok x else g env
theorem de_orX (ha : DE X W a f) (hb : DE X W (.BoolOp .Or (b :: rest) pos) g) : DE X W (.BoolOp .Or (a :: b :: rest) pos) (dOrX f g) := pre_E (pe_orX ha hb) fun σ H Q ⟨H0, F, env, rl, p⟩ => by
  refine ⟨H0, F, env, rl, (Post.bind p).mono (fun d p1 v F1 H1 g1 q => ?_) fun c p1 => p1⟩
  have p1 := Post.bind p1
  have fin : ∀ k, truthD d = .ok k → if k = true then Q v H1 else tD X.K X.mg W g σ H1 Q := fun k e => by
    rw [e] at p1
    have p1 : Post (if k = true then R.ok d else g env) _ _ := p1
    cases k with
    | true => exact iteT (p1 v F1 H1 g1 q)
    | false => exact iteF ⟨H0, F1, env, rl.grow g1, Post.mono (show Post (g env) _ _ from p1) (fun d k v F' H' g' => k v F' H' (g1.trans g')) fun c k F' H' g' => k F' H' (g1.trans g')⟩
  cases d with
  | none => cases q; exact ⟨false, rfl, fin false rfl⟩
  | bool k => cases q; exact ⟨k, rfl, fin k rfl⟩
  | int i => cases q; exact ⟨i != 0, rfl, fin _ rfl⟩
  | str x =>
    by_cases hx : x.length ≤ BIG
    · cases q; exact ⟨_, ⟨big_le hx, rfl⟩, fin _ (if_pos hx)⟩
    · rw [show truthD (.str x) = .bad from if_neg hx] at p1; exact p1.elim
  | list xs =>
    cases q with
    | lst h1 h2 => exact ⟨!xs.isEmpty, .inl ⟨_, .inl (.inl (g1.fh _ _ h1)), by rw [emp_eq h2]⟩, fin _ rfl⟩
  | tuple xs =>
    cases q with
    | tup h1 h2 => exact ⟨!xs.isEmpty, .inr (.inl ⟨_, .inl (.inl (g1.fh _ _ h1)), by rw [emp_eq h2]⟩), fin _ rfl⟩
  | dict _ => exact p1.elim
/-! ### dicts with texts as keys -/
def dctOf : Sl → R (List (Str × PyData))
  | .big (.dct kvs) => .ok kvs
  | _ => .bad
def getD? (kvs : List (Str × PyData)) (k : Str) : Option PyData := (kvs.find? fun kv => decide (kv.1 = k)).map (·.2)
def putD (kvs : List (Str × PyData)) (k : Str) (v : PyData) : List (Str × PyData) := if (kvs.any fun kv => decide (kv.1 = k)) = true then kvs.map (fun kv => if kv.1 = k then (kv.1, v) else kv) else kvs ++ [(k, v)]
theorem KvA.get {F : Hp} (k : Str) : ∀ {ks : List (Key × V)} {kvs : List (Str × PyData)}, KvA F ks kvs → match getD? kvs k with
    | some d => ∃ v, valV ks (.inr k) = some v ∧ Dq F v d
    | none => valV ks (.inr k) = none
  | _, _, .nil => rfl
  | _, _, .cons (x := x) (v := v) (d := d) (ks := ks) (kvs := kvs) h r => by
    have ih := KvA.get k r
    by_cases e : x = k
    · have e1 : getD? ((x, d) :: kvs) k = some d := by unfold getD?; rw [List.find?_cons, show decide (x = k) = true from decide_eq_true e]; rfl
      rw [e1]
      exact ⟨v, valV_pos (by show Sum.inr x = Sum.inr k; rw [e]), h⟩
    · have e1 : getD? ((x, d) :: kvs) k = getD? kvs k := by unfold getD?; rw [List.find?_cons, show decide (x = k) = false from decide_eq_false e]
      rw [e1, valV_neg (fun z => e (by injection z))]
      exact ih
theorem KvA.any {F : Hp} (k : Str) : ∀ {ks : List (Key × V)} {kvs : List (Str × PyData)}, KvA F ks kvs → (ks.any fun kv => decide (kv.1 = Sum.inr k)) = (kvs.any fun kv => decide (kv.1 = k))
  | _, _, .nil => rfl
  | _, _, .cons h r => by
    rw [List.any_cons, List.any_cons, KvA.any k r]
    congr 1
    rw [Bool.eq_iff_iff, decide_eq_true_eq, decide_eq_true_eq, Sum.inr.injEq]
theorem KvA.map {F : Hp} {k : Str} {v : V} {d : PyData} (q : Dq F v d) : ∀ {ks : List (Key × V)} {kvs : List (Str × PyData)}, KvA F ks kvs → KvA F (ks.map fun kv => if kv.1 = Sum.inr k then (kv.1, v) else kv) (kvs.map fun kv => if kv.1 = k then (kv.1, d) else kv)
  | _, _, .nil => .nil
  | _, _, .cons (x := x) h r => by
    rw [List.map_cons, List.map_cons]
    by_cases e : x = k
    · rw [if_pos (by show Sum.inr x = Sum.inr k; rw [e]), if_pos e]
      exact .cons q (KvA.map q r)
    · rw [if_neg (fun z => e (by injection z)), if_neg e]
      exact .cons h (KvA.map q r)
theorem KvA.snoc {F : Hp} {k : Str} {v : V} {d : PyData} (q : Dq F v d) : ∀ {ks : List (Key × V)} {kvs : List (Str × PyData)}, KvA F ks kvs → KvA F (ks ++ [(Sum.inr k, v)]) (kvs ++ [(k, d)])
  | _, _, .nil => .cons q .nil
  | _, _, .cons h r => .cons h (KvA.snoc q r)
theorem KvA.put {F : Hp} {ks : List (Key × V)} {kvs : List (Str × PyData)} {k : Str} {v : V} {d : PyData} (h : KvA F ks kvs) (q : Dq F v d) : KvA F (putK ks (.inr k) v) (putD kvs k d) := by
  unfold putK putD
  rw [h.any k]
  split
  · exact h.map q
  · exact h.snoc q
theorem KvA.length {F : Hp} : ∀ {ks : List (Key × V)} {kvs : List (Str × PyData)}, KvA F ks kvs → ks.length = kvs.length
  | _, _, .nil => rfl
  | _, _, .cons _ r => by rw [List.length_cons, List.length_cons, r.length]
theorem KvA.keys {F : Hp} : ∀ {ks : List (Key × V)} {kvs : List (Str × PyData)}, KvA F ks kvs → ks.map (·.1) = (kvs.map (·.1)).map Sum.inr
  | _, _, .nil => rfl
  | _, _, .cons _ r => by rw [List.map_cons, List.map_cons, List.map_cons, r.keys]
theorem fpOf_dct {H : Hp} {a : Addr} {kvs : List (Str × PyData)} : fpOf H a (.dct kvs) = [a] := rfl
theorem Rl.dct {K : PySem.W.Frag} {mg : Mg} {H0 : G0} {env : Ev} {σ : L2.St} {F H : Hp} {i : Nat} {kvs : List (Str × PyData)} (rl : Rl K mg H0 env σ F H) (h : dctOf (sget env i) = .ok kvs) : ∃ a ks, σ[i]? = some (some (.ref a)) ∧ H a = some (.dK ks) ∧ KvA F ks kvs ∧ sget env i = .big (.dct kvs) := by
  unfold dctOf at h
  split at h
  · rename_i kv e
    cases h
    obtain ⟨a, h1, ⟨ks, h2, h3⟩, _⟩ := rl.big e
    exact ⟨a, ks, h1, h2, h3, e⟩
  · cases h
theorem dctOf_noexc {s : Sl} {c : Str} : dctOf s ≠ .exc c := by unfold dctOf; split <;> simp
theorem dct_run {env : Ev} {i : Nat} {α : Type} {r : List (Str × PyData) → R α} {k : α → Prop} {E : Str → Prop} (p : Post ((dctOf (sget env i)).bind r) k E) : ∃ kvs, dctOf (sget env i) = .ok kvs ∧ Post (r kvs) k E := by
  cases e : dctOf (sget env i) with
  | bad => rw [e] at p; exact p.elim
  | exc c => exact absurd e dctOf_noexc
  | ok kvs => rw [e] at p; exact ⟨kvs, rfl, p⟩
/-- x[e] -/
def dDctIx (i : Nat) (f : Ev → R PyData) : Ev → R PyData := fun env => (dctOf (sget env i)).bind fun kvs => (f env).bind fun d => (asStr d).bind fun k => opt (getD? kvs k)
theorem opt_run {α : Type} {o : Option α} {k : α → Prop} {E : Str → Prop} (p : Post (opt o) k E) : ∃ a, o = some a ∧ k a := by
  cases o with
  | none => exact p.elim
  | some a => exact ⟨a, rfl, p⟩
theorem str_run {d : PyData} {α : Type} {r : Str → R α} {k : α → Prop} {E : Str → Prop} (p : Post ((asStr d).bind r) k E) : ∃ x, d = .str x ∧ Post (r x) k E := by
  cases d <;> first | exact p.elim | exact ⟨_, rfl, p⟩
theorem de_dctIx {k : Nat} (i : Nat) (hr : Room k X.A) (he : DE X W e f) (hN : X.N[i]? = some x := by rfl) (hv : Vis X.env.scope x := by first | exact Or.inl rfl | exact Or.inr (Or.inl rfl) | exact Or.inr (Or.inr rfl)) (hd : (x == ("__debug__" : Str)) = false := by decide) (hcd : (x == ("__classdict__" : Str)) = false := by decide) (hs : NoSl e := by exact fun _ _ => rfl) :
    DE X W (.Subscript (.Name x p1) e pos) (dDctIx i f) := pre_E (pe_dget (by have := hr.un; omega) (pe_var hN hv hd hcd) he hs) fun σ H Q ⟨H0, F, env, rl, p⟩ => by
  obtain ⟨kvs, e1, p⟩ := dct_run p
  obtain ⟨a, ks, h1, h2, h3, _⟩ := rl.dct e1
  refine ⟨_, h1, H0, F, env, rl, (Post.bind p).mono (fun d p1 v F1 H1 g1 q => ?_) fun c p1 => p1⟩
  obtain ⟨z, rfl, p1⟩ := str_run p1
  obtain ⟨d, e2, p1⟩ := opt_run p1
  cases q
  have h4 := h3.get z
  rw [e2] at h4
  obtain ⟨v, e3, e4⟩ := h4
  exact ⟨a, v, rfl, .inl ⟨ks, .inr z, .inl (g1.h _ _ h2), rfl, e3.symm⟩, p1 v F1 H1 g1 (e4.mono g1.f)⟩
/-- x.get(e, e2) -/
def dDctGet (i : Nat) (f g : Ev → R PyData) : Ev → R PyData := fun env => (dctOf (sget env i)).bind fun kvs => (f env).bind fun d => (asStr d).bind fun k => (g env).bind fun z => .ok ((getD? kvs k).getD z)
theorem de_dctGet {k : Nat} (i : Nat) (hr : Room k X.A) (he : DE X W e f) (hg : DE X W e2 g) (hN : X.N[i]? = some x := by rfl) (hv : Vis X.env.scope x := by first | exact Or.inl rfl | exact Or.inr (Or.inl rfl) | exact Or.inr (Or.inr rfl)) (hd : (x == ("__debug__" : Str)) = false := by decide) (hcd : (x == ("__classdict__" : Str)) = false := by decide)
    (base : attributeBase (.Name x p1) "get" X.env (eval (.Name x p1) X.env) = eval (.Name x p1) X.env := by rfl)
    (few : ((backTo cpos (starEach [e, e2] X.env)).all (fun x => !x.1) && (backToKw cpos (keywordEach [] X.env)).all (fun x => x.1.isSome) && decide (([e, e2] : List Expr).length + ([] : List Keyword).length + (if ([] : List Keyword).isEmpty then 0 else 1) < 30)) = true := by rfl)
    (line : (apos.endLine == cpos.line) = true := by rfl) (trees : backTo cpos (starEach [e, e2] X.env) = [(false, eval e X.env), (false, eval e2 X.env)] := by rfl) :
    DE X W (.Call (.Attribute (.Name x p1) "get" apos) [e, e2] [] cpos) (dDctGet i f g) := pre_E (pe_dget2 (by have := hr.un; omega) (pe_var hN hv hd hcd) he hg ⟨base, few, line, trees⟩) fun σ H Q ⟨H0, F, env, rl, p⟩ => by
  obtain ⟨kvs, e1, p⟩ := dct_run p
  obtain ⟨a, ks, h1, h2, h3, _⟩ := rl.dct e1
  refine ⟨_, h1, a, rfl, .inl ⟨ks, .inl h2⟩, H0, F, env, rl, (Post.bind p).mono (fun d p1 v F1 H1 g1 q => ?_) fun c p1 => p1⟩
  obtain ⟨z, rfl, p1⟩ := str_run p1
  cases q
  refine ⟨H0, F1, env, rl.grow g1, (Post.bind (show Post ((g env).bind fun z2 => R.ok ((getD? kvs z).getD z2)) _ _ from p1)).mono (fun d2 p2 v2 F2 H2 g2 q2 => ?_) fun c p2 F' H' g' => p2 F' H' (g1.trans g')⟩
  have g12 := g1.trans g2
  have h4 := h3.get z
  cases e2 : getD? kvs z with
  | none =>
    rw [e2] at h4 p2
    exact ⟨none, .inl ⟨ks, .inr z, .inl (g12.h _ _ h2), rfl, h4.symm⟩, p2 v2 F2 H2 g12 q2⟩
  | some d =>
    rw [e2] at h4 p2
    obtain ⟨v, e3, e4⟩ := h4
    exact ⟨some v, .inl ⟨ks, .inr z, .inl (g12.h _ _ h2), rfl, e3.symm⟩, p2 v F2 H2 g12 (e4.mono g12.f)⟩
/-- e not in x -/
def dDctNin (i : Nat) (f : Ev → R PyData) : Ev → R Bool := fun env => (f env).bind fun d => (asStr d).bind fun k => (dctOf (sget env i)).bind fun kvs => .ok (!(getD? kvs k).isSome)
theorem dt_dctNin {k : Nat} (i : Nat) (hr : Room k X.A) (he : DE X W e f) (hN : X.N[i]? = some x := by rfl) (hv : Vis X.env.scope x := by first | exact Or.inl rfl | exact Or.inr (Or.inl rfl) | exact Or.inr (Or.inr rfl)) (hd : (x == ("__debug__" : Str)) = false := by decide) (hcd : (x == ("__classdict__" : Str)) = false := by decide) (hm : behindInMarks .NotIn (.Name x p1) = false := by rfl) :
    DT X W (.Compare e [.NotIn] [.Name x p1] pos) (dDctNin i f) := pre_T (pt_cmp (pc_dnotin (by have := hr.un; omega) he (pe_var hN hv hd hcd)) hm) fun σ H Q ⟨H0, F, env, rl, p⟩ => by
  refine ⟨H0, F, env, rl, (Post.bind p).mono (fun d p1 v F1 H1 g1 q => ?_) fun c p1 => p1⟩
  obtain ⟨z, rfl, p1⟩ := str_run p1
  obtain ⟨kvs, e1, p1⟩ := dct_run p1
  obtain ⟨a, ks, h1, h2, h3, _⟩ := rl.dct e1
  cases q
  have h4 := h3.get z
  refine ⟨_, h1, a, valV ks (.inr z), rfl, .inl ⟨ks, .inr z, .inl (g1.h _ _ h2), rfl, rfl⟩, _, rfl, ?_⟩
  have e5 : (valV ks (.inr z)).isSome = (getD? kvs z).isSome := by
    cases e2 : getD? kvs z with
    | none => rw [e2] at h4; rw [h4]; rfl
    | some d => rw [e2] at h4; obtain ⟨v, e3, _⟩ := h4; rw [e3]; rfl
  rw [e5]
  exact p1 F1 H1 g1
/-- x = {} -/
def sDctNew (i : Nat) : Ev → R Out := fun env => .ok (.nx (env.set i (.big (.dct []))))
theorem dct_new {H0 : G0} {F0 F H : Hp} {env : Ev} {σ : L2.St} {K : PySem.W.Frag} {mg : Mg} (i : Nat) (gr : Grow F0 H0 F H) (rl : Rl K mg H0 env σ F H) {q : Addr} (nq : H q = none) {ks : List (Key × V)} {kvs : List (Str × PyData)} (h : KvA F ks kvs) :
    Grow F0 H0 F (upd H q (.dK ks)) ∧ Rl K mg H0 (env.set i (.big (.dct kvs))) (σ.set i (some (.ref q))) F (upd H q (.dK ks)) := by
  have hu : Same H (upd H q (.dK ks)) := same_upd (Same.refl H) nq
  refine ⟨⟨gr.f, gr.h.trans hu, rl.fh.trans hu, gr.nw⟩, rl.put i (Same.refl _) (rl.fh.trans hu) (fun x o e _ => hu x o e) (fun j t u x _ h1 h2 z => ((rl.sl j t u h1 h2).part z).2.1) ⟨q, rfl, ⟨ks, upd_same, h⟩, by rw [fpOf_dct]; simp, fun x hx => ?_⟩ fun j t u x _ h1 h2 z z' => ?_⟩
  · rw [fpOf_dct] at hx
    rw [List.mem_singleton.mp hx]
    exact ⟨gr.h.free nq, rl.fh.free nq, _, upd_same, fun _ _ z => by cases z⟩
  · have z' : x ∈ fpOf (upd H q (.dK ks)) q (.dct kvs) := z'
    rw [fpOf_dct] at z'
    rw [List.mem_singleton.mp z'] at z
    exact rl.apart h1 h2 z nq
theorem ds_dctNew (i : Nat) (hN : X.N.Nodup) (hi : X.N[i]? = some x := by rfl) (hx : L2.Loc X.env.scope x := by first | exact Or.inl rfl | exact Or.inr rfl) (hs : swapsWith (.Dict [] [] p) (some (.Name x p2)) pos.line X.env = pure false := by rfl)
    (hf : X.fn x = true ∨ X.env.scope.names.lookup x = some .local := by first | exact .inl rfl | exact .inr rfl) : DS X W (.Assign [.Name x p2] (.Dict [] [] p) pos) (sDctNew i) := pre_S (ps_set hN hi hx pe_dnewK hs hf) fun D σ H ⟨F0, H0, F, env, gr, rl, p⟩ q nq => by
  obtain ⟨a, b⟩ := dct_new i gr rl nq (ks := []) (kvs := []) .nil
  exact p _ F _ a b
/-- x[e] = e2 -/
def sDctSet (i : Nat) (f g : Ev → R PyData) : Ev → R Out := fun env => (g env).bind fun z => (dctOf (sget env i)).bind fun kvs => (f env).bind fun d => (asStr d).bind fun k => if kvs.length ≤ BIG then .ok (.nx (env.set i (.big (.dct (putD kvs k z))))) else .bad
theorem ds_dctSet {k : Nat} (i : Nat) (hr : Room k X.A) (he : DE X W e f) (hg : DE X W e2 g) (hN : X.N[i]? = some x := by rfl) (hv : Vis X.env.scope x := by first | exact Or.inl rfl | exact Or.inr (Or.inl rfl) | exact Or.inr (Or.inr rfl)) (hd : (x == ("__debug__" : Str)) = false := by decide) (hcd : (x == ("__classdict__" : Str)) = false := by decide)
    (hs : swapsWith e2 (some (.Subscript (.Name x p1) e p2)) pos.line X.env = pure false := by rfl) :
    DS X W (.Assign [.Subscript (.Name x p1) e p2] e2 pos) (sDctSet i f g) := pre_S (ps_dput (by have := hr.un; omega) (pe_var hN hv hd hcd) he hg hs) fun D σ H ⟨F0, H0, F, env, gr, rl, p⟩ => by
  refine ⟨H0, F, env, rl, (Post.bind p).mono (fun z p1 v F1 H1 g1 q => ?_) fun c k => excOn gr k⟩
  obtain ⟨kvs, hsl, p1⟩ := dct_run p1
  · obtain ⟨a, ks, h1, h2, h3, e3⟩ := rl.dct hsl
    refine ⟨_, h1, H0, F1, env, rl.grow g1, (Post.bind p1).mono (fun d p2 v2 F2 H2 g2 q2 => ?_) fun c k => excOn (gr.on g1) k⟩
    obtain ⟨kk, rfl, p2⟩ := str_run p2
    have p2 : Post (if kvs.length ≤ BIG then R.ok (Out.nx (env.set i (.big (.dct (putD kvs kk z))))) else .bad) _ _ := p2
    split at p2
    · rename_i hh
      cases q2
      have g12 := g1.trans g2
      have gr2 := gr.on g12
      obtain ⟨a', hσ', ba, kc⟩ := (rl.grow g12).chB gr2 (j := i) (b := .dct kvs) (by rw [e3]; rfl) (F' := F2) (H' := H2) (b' := .dct kvs)
      rw [h1] at hσ'; cases hσ'
      have hfa := ba.2.2 a (by rw [fpOf_dct]; simp)
      have h2' := g12.h _ _ h2
      have hka := (h3.mono g12.f).put (k := kk) (q.mono g2.f)
      obtain ⟨z1, z2, _⟩ := kc F2 (upd H2 a (.dK (putK ks (.inr kk) v))) (.dct (putD kvs kk z)) ⟨Same.refl _, fun x o e => by
          have nx : x ≠ a := fun z => by rw [z, hfa.1] at e; cases e
          rw [upd_ne nx]; exact g12.fh x o e, fun x o e n => by
          have nx : x ≠ a := fun z => n (by rw [z, fpOf_dct]; simp)
          rw [upd_ne nx]; exact e, fun x o e => .inl e⟩
        ⟨⟨_, upd_same, hka⟩, by rw [fpOf_dct]; simp, fun x hx => by
          rw [fpOf_dct] at hx
          rw [List.mem_singleton.mp hx]
          exact ⟨hfa.1, _, upd_same, fun _ _ z => by cases z⟩⟩ (fun x hx => .inl hx)
      refine ⟨a, _, rfl, .inl ⟨ks, .inr kk, h2', rfl, by rw [h3.length]; exact big_lt hh, rfl⟩, ?_⟩
      have ep : putB i (.dct (putD kvs kk z)) env = env.set i (.big (.dct (putD kvs kk z))) := by unfold putB; rw [e3]
      rw [ep] at z2
      exact p2 σ F2 _ z1 z2
    · exact p2.elim
end
/-! sorted(x) of a dict with texts as keys -/
def leS (x y : Str) : Bool := !ltCps y.cps.toList x.cps.toList
def sortS (ks : List Str) : List Str := ks.mergeSort leS
theorem ltCps_lt : ∀ a b : List Nat, ltCps a b = decide (a < b)
  | [], [] => by simp [ltCps]
  | [], _ :: _ => by simp [ltCps]
  | _ :: _, [] => by simp [ltCps]
  | x :: xs, y :: ys => by
    have ih := ltCps_lt xs ys
    rw [Bool.eq_iff_iff, decide_eq_true_eq, List.cons_lt_cons_iff]
    rw [Bool.eq_iff_iff, decide_eq_true_eq] at ih
    unfold ltCps
    by_cases h : x = y
    · subst h; simp [ih]
    · simp [h]
theorem leS_iff (x y : Str) : leS x y = true ↔ x.cps.toList ≤ y.cps.toList := by
  unfold leS
  rw [ltCps_lt, Bool.not_eq_true', decide_eq_false_iff_not]
  exact List.not_lt
theorem leS_trans (a b c : Str) (h1 : leS a b = true) (h2 : leS b c = true) : leS a c = true := by
  rw [leS_iff] at *; exact List.le_trans h1 h2
theorem leS_total (a b : Str) : (leS a b || leS b a) = true := by
  rw [Bool.or_eq_true, leS_iff, leS_iff]; exact List.le_total _ _
theorem leS_anti {a b : Str} (h1 : leS a b = true) (h2 : leS b a = true) : a = b := by
  rw [leS_iff] at *
  exact PySem.W.str_of_cps (List.le_antisymm h1 h2)
theorem rising_pw : ∀ (r : List Str) (p : Str), risingS p r = true → (p :: r).Pairwise fun a b => leS a b = true
  | [], p, _ => by simp
  | x :: r, p, h => by
    unfold risingS at h
    rw [Bool.and_eq_true] at h
    have ih := rising_pw r x h.2
    rw [List.pairwise_cons]
    refine ⟨fun y hy => ?_, ih⟩
    rcases List.mem_cons.mp hy with rfl | hy
    · exact h.1
    · exact leS_trans _ _ _ h.1 ((List.pairwise_cons.mp ih).1 y hy)
theorem sortedS_pw {ys : List Str} (h : sortedS ys = true) : ys.Pairwise fun a b => leS a b = true := by
  cases ys with
  | nil => exact .nil
  | cons x r => exact rising_pw r x h
theorem sortS_eq {ys ks : List Str} (hp : ys.Perm ks) (h : ys.Pairwise fun a b => leS a b = true) : ys = sortS ks :=
  List.Perm.eq_of_pairwise (fun _ _ _ _ h1 h2 => leS_anti h1 h2) h (List.pairwise_mergeSort leS_trans leS_total ks) (hp.trans (List.mergeSort_perm ks leS).symm)
theorem sortS_perm {ks ls : List Str} (h : ks.Perm ls) : sortS ks = sortS ls := sortS_eq ((List.mergeSort_perm ks leS).trans h) (List.pairwise_mergeSort leS_trans leS_total ks)
section
variable {X : Cx} {W : WX} {a b c e e2 : Expr} {rest : List Expr} {f g h : Ev → R PyData} {pos p p1 p2 p3 apos cpos : Pos} {x y : Str} {ta tb : TE}
def dDctKeys (i : Nat) : Ev → R PyData := fun env => (dctOf (sget env i)).bind fun kvs => if kvs.length < 64 then .ok (.list ((sortS (kvs.map (·.1))).map .str)) else .bad
theorem dqa_strs {F : Hp} : ∀ ks : List Str, DqA F (ks.map V.str) (ks.map .str)
  | [] => .nil
  | k :: ks => .cons (.str k) (dqa_strs ks)
theorem de_dctKeys (i : Nat) (hc : X.calm = true) (hm : X.mg "sorted" = none) (hN : X.N[i]? = some x := by rfl) (hv : Vis X.env.scope x := by first | exact Or.inl rfl | exact Or.inr (Or.inl rfl) | exact Or.inr (Or.inr rfl)) (hd : (x == ("__debug__" : Str)) = false := by decide) (hcd : (x == ("__classdict__" : Str)) = false := by decide)
    (hgl : Gl X "sorted" := by rfl) (he : starEach (.Name x p1 :: []) X.env = (false, eval (.Name x p1) X.env) :: starEach [] X.env := by rfl) (hpl : (backTo pos (starEach [] X.env)).any (·.1) = false := by rfl) :
    DE X W (.Call (.Name "sorted" p) [.Name x p1] [] pos) (dDctKeys i) := pre_E (pe_callB (call_sortedD hc) hgl hm (by decide +kernel) (pa_cons (pe_var hN hv hd hcd) pa_nil he) (by decide) (by decide) he hpl) fun σ H Q ⟨H0, F, env, rl, pp⟩ => by
  obtain ⟨kvs, e1, pp⟩ := dct_run pp
  obtain ⟨a, ks, h1, h2, h3, _⟩ := rl.dct e1
  split at pp
  · rename_i hh
    refine ⟨_, h1, a, ks, kvs.map (·.1), rfl, .inl h2, h3.keys, by rw [List.length_map]; exact hh, fun ys q hp hs nq => ?_⟩
    have e2 := sortS_eq hp (sortedS_pw hs)
    subst e2
    have gr : Grow F H (upd F q (.lst ((sortS (kvs.map (·.1))).map V.str))) (upd H q (.lst ((sortS (kvs.map (·.1))).map V.str))) := Grow.new rl.fh nq
    exact pp _ _ _ gr (.lst upd_same (dqa_strs _))
  · exact pp.elim
/-! x = dict(e), e a list of pairs -/
def pairsOf : List PyData → Option (List (Str × PyData))
  | [] => some []
  | .tuple [.str k, v] :: r => (pairsOf r).map ((k, v) :: ·)
  | _ :: _ => none
def mergeD (kvs more : List (Str × PyData)) : List (Str × PyData) := more.foldl (fun acc kv => putD acc kv.1 kv.2) kvs
theorem pairs_read {F H : Hp} {K : PySem.W.Frag} (fh : Same F H) : ∀ {ds : List PyData} {vs : List V} {kvs : List (Str × PyData)}, DqA F vs ds → pairsOf ds = some kvs → ∃ (ps : List Addr) (ks : List (Key × V)), vs = ps.map V.ref ∧ Paired (fun p kv => SqT K H p [kV kv.1, kv.2]) ps ks ∧ KvA F ks kvs
  | [], _, _, .nil, e => by cases e; exact ⟨[], [], rfl, .nil, .nil⟩
  | d :: ds, _, kvs, .cons q r, e => by
    unfold pairsOf at e
    split at e
    · rename_i heq; cases heq
    · rename_i k v r' heq
      cases heq
      cases e1 : pairsOf ds with
      | none => rw [e1] at e; cases e
      | some kv =>
        rw [e1] at e; cases e
        obtain ⟨ps, ks, h1, h2, h3⟩ := pairs_read fh r e1
        cases q with
        | tup hs ha =>
          rename_i a xs
          cases ha with
          | cons ha1 ha2 =>
            cases ha2 with
            | cons ha3 ha4 =>
              cases ha4
              cases ha1
              rename_i vv
              exact ⟨a :: ps, (Sum.inr k, vv) :: ks, by rw [h1]; rfl, .cons (.inl (.inl (fh _ _ hs))) h2, .cons ha3 h3⟩
    · cases e
theorem KvA.merge {F : Hp} : ∀ {more : List (Key × V)} {moreD : List (Str × PyData)} {ks : List (Key × V)} {kvs : List (Str × PyData)}, KvA F more moreD → KvA F ks kvs → KvA F (mergeK ks more) (mergeD kvs moreD)
  | [], _, _, _, hm, h => by cases hm; exact h
  | m :: more, moreD, ks, kvs, hm, h => by
    cases hm with
    | @cons k _ _ _ _ q r =>
      have z := KvA.merge r (h.put (k := k) q)
      exact z
def sDctOf (i : Nat) (f : Ev → R PyData) : Ev → R Out := fun env => (f env).bind fun d => match d with
  | .list ds => (opt (pairsOf ds)).bind fun kvs => .ok (.nx (env.set i (.big (.dct (mergeD [] kvs)))))
  | _ => .bad
theorem ds_dctOf (i : Nat) (hc : X.calm = true) (hm : X.mg "dict" = none) (hN : X.N.Nodup) (he : DE X W e f) (hi : X.N[i]? = some x := by rfl) (hx : L2.Loc X.env.scope x := by first | exact Or.inl rfl | exact Or.inr rfl) (hgl : Gl X "dict" := by rfl) (hse : starEach (e :: []) X.env = (false, eval e X.env) :: starEach [] X.env := by rfl) (hpl : (backTo cpos (starEach [] X.env)).any (·.1) = false := by rfl)
    (hs : swapsWith (.Call (.Name "dict" p) [e] [] cpos) (some (.Name x p2)) pos.line X.env = pure false := by rfl) (hf : X.fn x = true ∨ X.env.scope.names.lookup x = some .local := by first | exact .inl rfl | exact .inr rfl) :
    DS X W (.Assign [.Name x p2] (.Call (.Name "dict" p) [e] [] cpos) pos) (sDctOf i f) := pre_S (ps_set hN hi hx (pe_callTy (call_dictP hc) hgl hm (by decide +kernel) (pa_cons he pa_nil hse) (by decide) (by decide) hse hpl) hs hf) fun D σ H ⟨F0, H0, F, env, gr, rl, pp⟩ => by
  refine ⟨H0, F, env, rl, (Post.bind pp).mono (fun d p1 v F1 H1 g1 q => ?_) fun c k => excOn gr k⟩
  cases d <;> first | exact p1.elim | skip
  rename_i ds
  have p1 := Post.bind (show Post ((opt (pairsOf ds)).bind fun kvs => R.ok (Out.nx (env.set i (.big (.dct (mergeD [] kvs)))))) _ _ from p1)
  obtain ⟨kvs, e1, p1⟩ := opt_run p1
  cases q with
  | lst h1 h2 =>
    obtain ⟨ps, ks, e2, e3, e4⟩ := pairs_read (K := X.K) g1.fh h2 e1
    subst e2
    refine ⟨_, ps, ks, rfl, .inl (.inl (g1.fh _ _ h1)), e3, fun q nq => ?_⟩
    obtain ⟨z1, z2⟩ := dct_new i (gr.on g1) (rl.grow g1) nq (KvA.merge e4 .nil)
    exact p1 _ F1 _ z1 z2
end
end L3

namespace L3
open PySem PySem.Spec PyProof.Rows L2
/-! ### instances with fields: data, lists of their own -/
structure ClsF (K : PySem.W.Frag) (mg : Mg) (c : Str) (fl : List Str) : Prop where
  ex : ∃ C, mg c = some (.ref C) ∧ Cls K C ∧ ∀ f ∈ fl, NoAttr K C f
def insOf (c : Str) (s : Sl) : R (List (Str × Fld)) := match anyB s with
  | some (.ins c' fs) => if c' = c then .ok fs else .bad
  | _ => .bad
theorem insOf_noexc {c : Str} {s : Sl} {e : Str} : insOf c s ≠ .exc e := by
  unfold insOf
  split
  · split <;> simp
  · simp
theorem ins_run {c : Str} {env : Ev} {i : Nat} {α : Type} {r : List (Str × Fld) → R α} {k : α → Prop} {E : Str → Prop} (p : Post ((insOf c (sget env i)).bind r) k E) : ∃ fs, anyB (sget env i) = some (.ins c fs) ∧ Post (r fs) k E := by
  unfold insOf at p
  split at p
  · rename_i c' fs e
    split at p
    · rename_i h; subst h; exact ⟨fs, e, p⟩
    · exact p.elim
  · exact p.elim
theorem lookup_mem {α : Type} {f : Str} {y : α} : ∀ {fs : List (Str × α)}, fs.lookup f = some y → (f, y) ∈ fs
  | [], h => by cases h
  | (g, x) :: r, h => by
    rw [List.lookup_cons] at h
    by_cases e : f = g
    · subst e; rw [beq_self_eq_true] at h; cases h; exact List.mem_cons_self
    · rw [show (f == g) = false from beq_eq_false_iff_ne.mpr e] at h
      exact List.mem_cons_of_mem _ (lookup_mem h)
theorem lookup_none {α : Type} {f : Str} : ∀ {fs : List (Str × α)}, f ∉ fs.map (·.1) → fs.lookup f = none
  | [], _ => rfl
  | (g, x) :: r, h => by
    rw [List.map_cons, List.mem_cons, not_or] at h
    rw [List.lookup_cons, show (f == g) = false from beq_eq_false_iff_ne.mpr h.1]
    exact lookup_none h.2
section
variable {X : Cx} {W : WX} {e e2 : Expr} {es : List Expr} {g : Ev → R PyData} {l : Ev → R (List Sl)} {pos pos' p p1 p2 apos cpos : Pos} {x y c f m : Str} {fl ps : List Str} {k n : Nat}
/-- x.f, data -/
def dFld (i : Nat) (c f : Str) : Ev → R PyData := fun env => (insOf c (sget env i)).bind fun fs => match fs.lookup f with
  | some (.d z) => .ok z
  | _ => .bad
theorem de_fld (i : Nat) (T : ClsF X.K X.mg c fl) (hf : f ∈ fl := by decide) (hN : X.N[i]? = some x := by rfl) (hv : Vis X.env.scope x := by first | exact Or.inl rfl | exact Or.inr (Or.inl rfl) | exact Or.inr (Or.inr rfl)) (hd : (x == ("__debug__" : Str)) = false := by decide) (hcd : (x == ("__classdict__" : Str)) = false := by decide)
    (hb : attributeBase (.Name x p) f X.env (eval (.Name x p) X.env) = eval (.Name x p) X.env := by rfl) : DE X W (.Attribute (.Name x p) f pos) (dFld i c f) := pre_E (pe_fld (pe_var hN hv hd hcd) hb) fun σ H Q ⟨H0, F, env, rl, pp⟩ => by
  obtain ⟨fs, e1, pp⟩ := ins_run pp
  obtain ⟨a, h1, ⟨C, dx, gs, h2, h3, h4, h5, h6⟩, _⟩ := rl.anyB e1
  obtain ⟨C', t1, t2, t3⟩ := T.ex
  rw [h2] at t1; cases t1
  split at pp
  · rename_i z e2
    obtain ⟨v, h7, h8⟩ := h6 _ (lookup_mem e2)
    exact ⟨_, h1, a, C, dx, gs, v, rfl, h3, t2, t3 _ hf, h7, pp v F H (.refl rl.fh) h8⟩
  · exact pp.elim
/-- x.f as a test, x.f a list of its own -/
def dFldTr (i : Nat) (c f : Str) : Ev → R Bool := fun env => (insOf c (sget env i)).bind fun fs => match fs.lookup f with
  | some (.l xs) => .ok (!xs.isEmpty)
  | _ => .bad
theorem dt_fldTr (i : Nat) (T : ClsF X.K X.mg c fl) (hf : f ∈ fl := by decide) (hN : X.N[i]? = some x := by rfl) (hv : Vis X.env.scope x := by first | exact Or.inl rfl | exact Or.inr (Or.inl rfl) | exact Or.inr (Or.inr rfl)) (hd : (x == ("__debug__" : Str)) = false := by decide) (hcd : (x == ("__classdict__" : Str)) = false := by decide)
    (hb : attributeBase (.Name x p) f X.env (eval (.Name x p) X.env) = eval (.Name x p) X.env := by rfl) (he : ∀ whole, isTrue (.Attribute (.Name x p) f pos) X.env whole = (do let v ← whole; standAt (Expr.Attribute (.Name x p) f pos).pos; holding [v] (truthy v)) := by intro _; rfl) :
    DT X W (.Attribute (.Name x p) f pos) (dFldTr i c f) := pre_T (pt_truth (pe_fld (pe_var hN hv hd hcd) hb) he) fun σ H Q ⟨H0, F, env, rl, pp⟩ => by
  obtain ⟨fs, e1, pp⟩ := ins_run pp
  obtain ⟨a, h1, ⟨C, dx, gs, h2, h3, h4, h5, h6⟩, _⟩ := rl.anyB e1
  obtain ⟨C', t1, t2, t3⟩ := T.ex
  rw [h2] at t1; cases t1
  split at pp
  · rename_i xs e2
    obtain ⟨v, h7, p, vs, rfl, h8, h9⟩ := h6 _ (lookup_mem e2)
    exact ⟨_, h1, a, C, dx, gs, _, rfl, h3, t2, t3 _ hf, h7, _, .inl ⟨vs, .inl (.inl h8), rfl⟩, by rw [emp_eq h9]; exact pp F H (.refl rl.fh)⟩
  · exact pp.elim
end
/-! fields written -/
def putFd (f : Str) (y : Fld) : List (Str × Fld) → List (Str × Fld)
  | [] => [(f, y)]
  | (g, x) :: r => if g = f then (g, y) :: r else (g, x) :: putFd f y r
theorem putFd_keys (f : Str) (y : Fld) (v : V) : ∀ {fs : List (Str × Fld)} {gs : List (Str × V)}, gs.map (·.1) = fs.map (·.1) → (putF f v gs).map (·.1) = (putFd f y fs).map (·.1)
  | [], [], _ => rfl
  | [], _ :: _, h => by cases h
  | _ :: _, [], h => by cases h
  | (g, x) :: fs, (g', x') :: gs, h => by
    simp only [List.map_cons, List.cons.injEq] at h
    obtain ⟨h1, h2⟩ := h
    subst h1
    show (if g' = f then (g', v) :: gs else (g', x') :: putF f v gs).map (·.1) = (if g' = f then (g', y) :: fs else (g', x) :: putFd f y fs).map (·.1)
    by_cases e : g' = f
    · rw [if_pos e, if_pos e, List.map_cons, List.map_cons, h2]
    · rw [if_neg e, if_neg e, List.map_cons, List.map_cons, putFd_keys f y v h2]
theorem putFd_mem (f : Str) (y : Fld) : ∀ {fs : List (Str × Fld)}, (fs.map (·.1)).Nodup → ∀ q ∈ putFd f y fs, q = (f, y) ∨ (q ∈ fs ∧ q.1 ≠ f)
  | [], _, q, h => .inl (List.mem_singleton.mp h)
  | (g, x) :: fs, hn, q, h => by
    have hn : g ∉ fs.map (·.1) ∧ (fs.map (·.1)).Nodup := List.nodup_cons.mp hn
    have h : q ∈ (if g = f then (g, y) :: fs else (g, x) :: putFd f y fs) := h
    by_cases e : g = f
    · rw [if_pos e] at h
      rcases List.mem_cons.mp h with rfl | h
      · exact .inl (by rw [e])
      · exact .inr ⟨List.mem_cons_of_mem _ h, fun z => hn.1 (by rw [e, ← z]; exact List.mem_map.mpr ⟨q, h, rfl⟩)⟩
    · rw [if_neg e] at h
      rcases List.mem_cons.mp h with rfl | h
      · exact .inr ⟨List.mem_cons_self, e⟩
      · rcases putFd_mem f y hn.2 q h with z | z
        · exact .inl z
        · exact .inr ⟨List.mem_cons_of_mem _ z.1, z.2⟩
def prt (gs : List (Str × V)) (q : Str × Fld) : Option Addr := match q.2 with
  | .l _ => (gs.lookup q.1).bind refOf
  | .d _ => none
def newP (y : Fld) (v : V) : List Addr := match y with
  | .l _ => (refOf v).toList
  | .d _ => []
theorem fm_same {gs : List (Str × V)} {f : Str} {v : V} : ∀ {fs : List (Str × Fld)}, f ∉ fs.map (·.1) → fs.filterMap (prt (putF f v gs)) = fs.filterMap (prt gs)
  | [], _ => rfl
  | (g, x) :: fs, h => by
    rw [List.map_cons, List.mem_cons, not_or] at h
    have e : prt (putF f v gs) (g, x) = prt gs (g, x) := by
      unfold prt
      cases x with
      | d _ => rfl
      | l _ => show ((putF f v gs).lookup g).bind refOf = (gs.lookup g).bind refOf; rw [lookup_putF, if_neg (fun z => h.1 z.symm)]
    rw [List.filterMap_cons, List.filterMap_cons, e, fm_same h.2]
theorem fm_cons {α β : Type} (p : α → Option β) (q : α) (l : List α) : (q :: l).filterMap p = (p q).toList ++ l.filterMap p := by
  rw [List.filterMap_cons]; cases p q <;> rfl
theorem prt_new {gs : List (Str × V)} {f : Str} {v : V} {y : Fld} : (prt (putF f v gs) (f, y)).toList = newP y v := by
  unfold prt newP
  cases y with
  | d _ => rfl
  | l _ =>
    show (((putF f v gs).lookup f).bind refOf).toList = _
    rw [lookup_putF, if_pos rfl]; rfl
theorem prt_old {gs : List (Str × V)} {f g : Str} {v : V} {x : Fld} (h : ¬ g = f) : prt (putF f v gs) (g, x) = prt gs (g, x) := by
  unfold prt
  cases x with
  | d _ => rfl
  | l _ => show ((putF f v gs).lookup g).bind refOf = (gs.lookup g).bind refOf; rw [lookup_putF, if_neg h]
theorem fm_put {gs : List (Str × V)} {f : Str} {v : V} {y : Fld} : ∀ {fs : List (Str × Fld)}, (fs.map (·.1)).Nodup → ∃ l1 l2 old, fs.filterMap (prt gs) = l1 ++ (old ++ l2) ∧ (putFd f y fs).filterMap (prt (putF f v gs)) = l1 ++ (newP y v ++ l2)
  | [], _ => ⟨[], [], [], rfl, by
    show [(f, y)].filterMap _ = _
    rw [fm_cons, prt_new]; rfl⟩
  | (g, x) :: fs, hn => by
    have hn : g ∉ fs.map (·.1) ∧ (fs.map (·.1)).Nodup := List.nodup_cons.mp hn
    by_cases e : g = f
    · subst e
      refine ⟨[], fs.filterMap (prt gs), (prt gs (g, x)).toList, ?_, ?_⟩
      · rw [fm_cons, List.nil_append]
      · rw [show putFd g y ((g, x) :: fs) = (g, y) :: fs from if_pos rfl, fm_cons, prt_new, fm_same hn.1, List.nil_append]
    · obtain ⟨l1, l2, old, e1, e2⟩ := fm_put (gs := gs) (f := f) (v := v) (y := y) hn.2
      refine ⟨(prt gs (g, x)).toList ++ l1, l2, old, ?_, ?_⟩
      · rw [fm_cons, e1, List.append_assoc]
      · rw [show putFd f y ((g, x) :: fs) = (g, x) :: putFd f y fs from if_neg e, fm_cons, e2, List.append_assoc, prt_old e]
theorem fpOf_ins' {H : Hp} {a C dx : Addr} {c : Str} {gs : List (Str × V)} {fs : List (Str × Fld)} (h : H a = some (.ins C dx gs)) : fpOf H a (.ins c fs) = a :: dx :: fs.filterMap (prt gs) := fpOf_ins h
theorem ins_put {mg : Mg} {F Hb H : Hp} {a C dx : Addr} {c f : Str} {gs : List (Str × V)} {fs : List (Str × Fld)} {v : V} {y : Fld} (ba : BigAt mg F Hb a (.ins c fs)) (hg : Hb a = some (.ins C dx gs)) (hC : mg c = some (.ref C)) (hdx : Hb dx = some (.own a)) (hk : gs.map (·.1) = fs.map (·.1)) (hq : ∀ q ∈ fs, ∃ u, gs.lookup q.1 = some u ∧ FldR F Hb u q.2) (hn : (fs.map (·.1)).Nodup)
    (sb : ∀ x o, Hb x = some o → H x = some o) (hv : FldR F H v y) (hnew : ∀ p ∈ newP y v, Hb p = none ∧ F p = none ∧ ∃ vs, H p = some (.lst vs)) :
    BigAt mg F (upd H a (.ins C dx (putF f v gs))) a (.ins c (putFd f y fs)) ∧ ∀ x ∈ fpOf (upd H a (.ins C dx (putF f v gs))) a (.ins c (putFd f y fs)), x ∈ fpOf Hb a (.ins c fs) ∨ Hb x = none := by
  obtain ⟨_, nd, hp⟩ := ba
  have e0 := fpOf_ins' (c := c) (fs := fs) hg
  have e1 : fpOf (upd H a (.ins C dx (putF f v gs))) a (.ins c (putFd f y fs)) = a :: dx :: (putFd f y fs).filterMap (prt (putF f v gs)) := fpOf_ins' upd_same
  obtain ⟨l1, l2, old, z1, z2⟩ := fm_put (gs := gs) (f := f) (v := v) (y := y) hn
  rw [e0, z1] at nd hp
  rw [e1, z2, e0, z1]
  have nd2 := nd
  rw [List.nodup_cons, List.nodup_cons] at nd2
  obtain ⟨na, ndx, nl⟩ := nd2
  have hax : a ≠ dx := fun z => na (by rw [z]; exact List.mem_cons_self)
  have hold : ∀ x ∈ l1 ++ l2, x ∈ l1 ++ (old ++ l2) := fun x hx => by
    rcases List.mem_append.mp hx with hx | hx
    · exact List.mem_append_left _ hx
    · exact List.mem_append_right _ (List.mem_append_right _ hx)
  have hnn : ∀ p ∈ newP y v, p ≠ a ∧ p ≠ dx ∧ p ∉ l1 ++ (old ++ l2) := fun p hp' => by
    obtain ⟨q1, _⟩ := hnew p hp'
    have bad : ∀ x ∈ a :: dx :: (l1 ++ (old ++ l2)), p ≠ x := fun x hx e => by
      obtain ⟨_, o, ho, _⟩ := hp x hx
      rw [e, ho] at q1; cases q1
    exact ⟨bad _ List.mem_cons_self, bad _ (List.mem_cons_of_mem _ List.mem_cons_self), fun z => bad p (List.mem_cons_of_mem _ (List.mem_cons_of_mem _ z)) rfl⟩
  have hlen : newP y v = [] ∨ ∃ p, newP y v = [p] := by
    unfold newP
    cases y with
    | d _ => exact .inl rfl
    | l _ => show (refOf v).toList = [] ∨ _; cases refOf v with | none => exact .inl rfl | some p => exact .inr ⟨p, rfl⟩
  have nl' : (l1 ++ (newP y v ++ l2)).Nodup := by
    rw [List.nodup_append, List.nodup_append] at nl ⊢
    refine ⟨nl.1, ⟨?_, nl.2.1.2.1, fun p hp' x hx e => ?_⟩, fun x hx p hp' e => ?_⟩
    · rcases hlen with z | ⟨p, z⟩ <;> rw [z] <;> simp
    · exact (hnn p hp').2.2 (by rw [e]; exact List.mem_append_right _ (List.mem_append_right _ hx))
    · rcases List.mem_append.mp hp' with hp' | hp'
      · exact (hnn p hp').2.2 (by rw [← e]; exact List.mem_append_left _ hx)
      · exact nl.2.2 x hx p (List.mem_append_right _ hp') e
  have hmem : ∀ x ∈ l1 ++ (newP y v ++ l2), x ∈ l1 ++ l2 ∨ x ∈ newP y v := fun x hx => by
    rcases List.mem_append.mp hx with hx | hx
    · exact .inl (List.mem_append_left _ hx)
    · rcases List.mem_append.mp hx with hx | hx
      · exact .inr hx
      · exact .inl (List.mem_append_right _ hx)
  refine ⟨⟨⟨C, dx, putF f v gs, hC, upd_same, by rw [upd_ne (Ne.symm hax)]; exact sb _ _ hdx, putFd_keys f y v hk, fun q hq' => ?_⟩, by
    rw [e1, z2, List.nodup_cons, List.nodup_cons]
    refine ⟨fun z => ?_, fun z => ?_, nl'⟩
    · rcases List.mem_cons.mp z with z | z
      · exact hax z
      · rcases hmem _ z with z | z
        · exact na (List.mem_cons_of_mem _ (hold _ z))
        · exact (hnn _ z).1 rfl
    · rcases hmem _ z with z | z
      · exact ndx (hold _ z)
      · exact (hnn _ z).2.1 rfl, fun x hx => ?_⟩, fun x hx => ?_⟩
  · rcases putFd_mem f y hn q hq' with rfl | ⟨q1, q2⟩
    · refine ⟨v, by rw [lookup_putF, if_pos rfl], ?_⟩
      cases y with
      | d z => exact hv
      | l xs =>
        obtain ⟨p, vs, rfl, h1, h2⟩ := hv
        exact ⟨p, vs, rfl, by rw [upd_ne (hnn p List.mem_cons_self).1]; exact h1, h2⟩
    · obtain ⟨u, h1, h2⟩ := hq q q1
      refine ⟨u, by rw [lookup_putF, if_neg q2]; exact h1, ?_⟩
      obtain ⟨g, x⟩ := q
      cases x with
      | d z => exact h2
      | l xs =>
        obtain ⟨p, vs, rfl, h3, h4⟩ := h2
        have hpa : p ≠ a := fun z => na (by
          rw [← z, ← z1]
          exact List.mem_cons_of_mem _ (List.mem_filterMap.mpr ⟨_, q1, by show (gs.lookup g).bind refOf = some p; rw [h1]; rfl⟩))
        exact ⟨p, vs, rfl, by rw [upd_ne hpa]; exact sb _ _ h3, h4⟩
  · rw [e1, z2] at hx
    rcases List.mem_cons.mp hx with rfl | hx
    · exact ⟨(hp _ List.mem_cons_self).1, _, upd_same, fun _ _ z => by cases z⟩
    · have old' : ∀ x ∈ dx :: (l1 ++ (old ++ l2)), x ≠ a → F x = none ∧ ∃ o, upd H a (.ins C dx (putF f v gs)) x = some o ∧ ∀ ob u, o ≠ .frz ob u := fun x hx ne => by
        obtain ⟨q1, o, q2, q3⟩ := hp x (List.mem_cons_of_mem _ hx)
        exact ⟨q1, o, by rw [upd_ne ne]; exact sb _ _ q2, q3⟩
      rcases List.mem_cons.mp hx with rfl | hx
      · exact old' _ List.mem_cons_self (Ne.symm hax)
      · rcases hmem _ hx with hx | hx
        · exact old' x (List.mem_cons_of_mem _ (hold x hx)) fun z => na (by rw [← z]; exact List.mem_cons_of_mem _ (hold x hx))
        · obtain ⟨q1, q2, vs, q3⟩ := hnew x hx
          exact ⟨q2, _, by rw [upd_ne (hnn x hx).1]; exact q3, fun _ _ z => by cases z⟩
  · rcases List.mem_cons.mp hx with rfl | hx
    · exact .inl List.mem_cons_self
    · rcases List.mem_cons.mp hx with rfl | hx
      · exact .inl (List.mem_cons_of_mem _ List.mem_cons_self)
      · rcases hmem _ hx with hx | hx
        · exact .inl (List.mem_cons_of_mem _ (List.mem_cons_of_mem _ (hold x hx)))
        · exact .inr (hnew x hx).1
def bigI (c : Str) (s : Sl) : R (List (Str × Fld)) := match s with
  | .big (.ins c' fs) => if c' = c then .ok fs else .bad
  | .slf (.ins c' fs) => if c' = c then .ok fs else .bad
  | _ => .bad
theorem bigI_run {c : Str} {env : Ev} {i : Nat} {α : Type} {r : List (Str × Fld) → R α} {k : α → Prop} {E : Str → Prop} (p : Post ((bigI c (sget env i)).bind r) k E) : ∃ fs, bigOf (sget env i) = .ok (.ins c fs) ∧ anyB (sget env i) = some (.ins c fs) ∧ Post (r fs) k E := by
  unfold bigI at p
  split at p
  · rename_i c' fs e
    split at p
    · rename_i h; subst h; rw [e]; exact ⟨fs, rfl, rfl, p⟩
    · exact p.elim
  · rename_i c' fs e
    split at p
    · rename_i h; subst h; rw [e]; exact ⟨fs, rfl, rfl, p⟩
    · exact p.elim
  · exact p.elim
section
variable {X : Cx} {W : WX} {e e2 : Expr} {es : List Expr} {g : Ev → R PyData} {l : Ev → R (List Sl)} {pos pos' p p1 p2 apos cpos : Pos} {x y c f m : Str} {fl ps : List Str} {k n : Nat}
/-- x.f = e, data -/
def sFldSet (i : Nat) (c f : Str) (g : Ev → R PyData) : Ev → R Out := fun env => (g env).bind fun z => (bigI c (sget env i)).bind fun fs => if (fs.map (·.1)).Nodup ∧ fs.length < 100 then .ok (.nx (putB i (.ins c (putFd f (.d z) fs)) env)) else .bad
theorem ds_fldSet (i : Nat) (T : ClsF X.K X.mg c fl) (he : DE X W e g) (hf : f ∈ fl := by decide) (hN : X.N[i]? = some x := by rfl) (hv : Vis X.env.scope x := by first | exact Or.inl rfl | exact Or.inr (Or.inl rfl) | exact Or.inr (Or.inr rfl)) (hd : (x == ("__debug__" : Str)) = false := by decide) (hcd : (x == ("__classdict__" : Str)) = false := by decide)
    (hs : swapsWith e (some (.Attribute (.Name x p) f pos')) pos.line X.env = pure false := by rfl) : DS X W (.Assign [.Attribute (.Name x p) f pos'] e pos) (sFldSet i c f g) := pre_S (ps_fld (pe_var hN hv hd hcd) he hs) fun D σ H ⟨F0, H0, F, env, gr, rl, pp⟩ => by
  refine ⟨H0, F, env, rl, (Post.bind pp).mono (fun z p1 v F1 H1 g1 q => ?_) fun c k => excOn gr k⟩
  obtain ⟨fs, e0, e1, p1⟩ := bigI_run p1
  split at p1
  · rename_i hh
    have gr1 := gr.on g1
    obtain ⟨a, hσ, ba, kk⟩ := (rl.grow g1).chB gr1 e0 (F' := F1) (H' := H1) (b' := .ins c fs)
    obtain ⟨C, dx, gs, h2, h3, h4, h5, h6⟩ := id ba.1
    obtain ⟨C', t1, t2, t3⟩ := T.ex
    rw [h2] at t1; cases t1
    obtain ⟨n1, n2⟩ := ins_put (f := f) (v := v) (y := .d z) ba h3 h2 h4 h5 h6 hh.1 (fun _ _ e => e) q (fun p hp => by cases hp)
    have ha := ba.2.2 a fpOf_self
    obtain ⟨z1, z2, _⟩ := kk F1 _ _ ⟨Same.refl _, fun x o e => by
        have nx : x ≠ a := fun z => by rw [z, ha.1] at e; cases e
        rw [upd_ne nx]; exact g1.fh x o e, fun x o e n => by
        have nx : x ≠ a := fun z => n (by rw [z]; exact fpOf_self)
        rw [upd_ne nx]; exact e, fun x o e => .inl e⟩ n1 n2
    exact ⟨_, hσ, a, C, dx, gs, rfl, h3, t2, t3 _ hf, by rw [← List.length_map (f := (·.1)), h5, List.length_map]; omega, p1 σ F1 _ z1 z2⟩
  · exact p1.elim
/-- x.f = [] -/
def sFldNil (i : Nat) (c f : Str) : Ev → R Out := fun env => (bigI c (sget env i)).bind fun fs => if (fs.map (·.1)).Nodup ∧ fs.length < 100 then .ok (.nx (putB i (.ins c (putFd f (.l []) fs)) env)) else .bad
theorem ds_fldNil (i : Nat) (T : ClsF X.K X.mg c fl) (hf : f ∈ fl := by decide) (hN : X.N[i]? = some x := by rfl) (hv : Vis X.env.scope x := by first | exact Or.inl rfl | exact Or.inr (Or.inl rfl) | exact Or.inr (Or.inr rfl)) (hd : (x == ("__debug__" : Str)) = false := by decide) (hcd : (x == ("__classdict__" : Str)) = false := by decide)
    (hs : swapsWith (.List [] p1) (some (.Attribute (.Name x p) f pos')) pos.line X.env = pure false := by rfl) : DS X W (.Assign [.Attribute (.Name x p) f pos'] (.List [] p1) pos) (sFldNil i c f) := pre_S (ps_fld (pe_var hN hv hd hcd) (pe_lst pa_nil) hs) fun D σ H ⟨F0, H0, F, env, gr, rl, pp⟩ => by
  obtain ⟨fs, e0, e1, pp⟩ := bigI_run pp
  split at pp
  · rename_i hh
    refine ⟨Nat.zero_le _, fun q nq => ?_⟩
    obtain ⟨a, hσ, ba, kk⟩ := rl.chB gr e0 (F' := F) (H' := H) (b' := .ins c fs)
    obtain ⟨C, dx, gs, h2, h3, h4, h5, h6⟩ := id ba.1
    obtain ⟨C', t1, t2, t3⟩ := T.ex
    rw [h2] at t1; cases t1
    have hu : ∀ x o, H x = some o → upd H q (.lst []) x = some o := fun x o e => by
      have : x ≠ q := fun z => by rw [z, nq] at e; cases e
      rw [upd_ne this]; exact e
    obtain ⟨n1, n2⟩ := ins_put (H := upd H q (.lst [])) (f := f) (v := .ref q) (y := .l []) ba h3 h2 h4 h5 h6 hh.1 hu ⟨q, [], rfl, upd_same, .nil⟩ (fun p hp => by
      rw [List.mem_singleton.mp (show p ∈ [q] from hp)]
      exact ⟨nq, rl.fh.free nq, [], upd_same⟩)
    have ha := ba.2.2 a fpOf_self
    obtain ⟨z1, z2, _⟩ := kk F _ _ ⟨Same.refl _, fun x o e => by
        have nx : x ≠ a := fun z => by rw [z, ha.1] at e; cases e
        rw [upd_ne nx]; exact hu x o (rl.fh x o e), fun x o e n => by
        have nx : x ≠ a := fun z => n (by rw [z]; exact fpOf_self)
        rw [upd_ne nx]; exact hu x o e, fun x o e => .inl e⟩ n1 n2
    exact ⟨_, hσ, a, C, dx, gs, rfl, hu _ _ h3, t2, t3 _ hf, by rw [← List.length_map (f := (·.1)), h5, List.length_map]; omega, pp σ F _ z1 z2⟩
  · exact pp.elim
end
/-! what a list field holds, changed -/
theorem putFd_same {f : Str} {y y' : Fld} {gs : List (Str × V)} (hy : ∀ g, prt gs (g, y) = prt gs (g, y')) : ∀ {fs : List (Str × Fld)}, fs.lookup f = some y → (putFd f y' fs).map (·.1) = fs.map (·.1) ∧ (putFd f y' fs).filterMap (prt gs) = fs.filterMap (prt gs)
  | [], h => by cases h
  | (g, x) :: fs, h => by
    rw [List.lookup_cons] at h
    by_cases e : g = f
    · subst e
      rw [beq_self_eq_true] at h
      cases h
      rw [show putFd g y' ((g, y) :: fs) = (g, y') :: fs from if_pos rfl]
      exact ⟨rfl, by rw [fm_cons, fm_cons, hy]⟩
    · rw [show (f == g) = false from beq_eq_false_iff_ne.mpr fun z => e z.symm] at h
      obtain ⟨h1, h2⟩ := putFd_same hy h
      rw [show putFd f y' ((g, x) :: fs) = (g, x) :: putFd f y' fs from if_neg e]
      exact ⟨by rw [List.map_cons, List.map_cons, h1], by rw [fm_cons, fm_cons, h2]⟩
theorem fm_apart {gs : List (Str × V)} {p : Addr} : ∀ {fs : List (Str × Fld)}, (fs.filterMap (prt gs)).Nodup → ∀ {q r : Str × Fld}, q ∈ fs → r ∈ fs → prt gs q = some p → prt gs r = some p → q = r
  | [], _, q, _, hq, _, _, _ => by cases hq
  | z :: fs, hn, q, r, hq, hr, e1, e2 => by
    rw [fm_cons, List.nodup_append] at hn
    have hin : ∀ s ∈ fs, prt gs s = some p → p ∈ fs.filterMap (prt gs) := fun s hs e => List.mem_filterMap.mpr ⟨s, hs, e⟩
    rcases List.mem_cons.mp hq with a1 | a1
    · rcases List.mem_cons.mp hr with a2 | a2
      · rw [a1, a2]
      · exact absurd rfl (hn.2.2 p (by rw [← a1, e1]; simp) p (hin r a2 e2))
    · rcases List.mem_cons.mp hr with a2 | a2
      · exact absurd rfl (hn.2.2 p (by rw [← a2, e2]; simp) p (hin q a1 e1))
      · exact fm_apart hn.2.1 a1 a2 e1 e2
theorem ins_lst {mg : Mg} {F H : Hp} {a C dx p : Addr} {c f : Str} {gs : List (Str × V)} {fs : List (Str × Fld)} {xs xs' : List PyData} {vs' : List V} (ba : BigAt mg F H a (.ins c fs)) (hg : H a = some (.ins C dx gs)) (hC : mg c = some (.ref C)) (hdx : H dx = some (.own a)) (hk : gs.map (·.1) = fs.map (·.1)) (hq : ∀ q ∈ fs, ∃ u, gs.lookup q.1 = some u ∧ FldR F H u q.2) (hn : (fs.map (·.1)).Nodup)
    (hl : fs.lookup f = some (.l xs)) (hp : gs.lookup f = some (.ref p)) (hv : DqA F vs' xs') :
    p ∈ fpOf H a (.ins c fs) ∧ F p = none ∧ BigAt mg F (upd H p (.lst vs')) a (.ins c (putFd f (.l xs') fs)) ∧ fpOf (upd H p (.lst vs')) a (.ins c (putFd f (.l xs') fs)) = fpOf H a (.ins c fs) := by
  obtain ⟨_, nd, hpp⟩ := ba
  have e0 := fpOf_ins' (c := c) (fs := fs) hg
  obtain ⟨k1, k2⟩ := putFd_same (gs := gs) (f := f) (y := .l xs) (y' := .l xs') (fun _ => rfl) hl
  have hpm : p ∈ fs.filterMap (prt gs) := List.mem_filterMap.mpr ⟨_, lookup_mem hl, by show (gs.lookup f).bind refOf = some p; rw [hp]; rfl⟩
  have hin : p ∈ fpOf H a (.ins c fs) := by rw [e0]; exact List.mem_cons_of_mem _ (List.mem_cons_of_mem _ hpm)
  have nd2 := nd
  rw [e0, List.nodup_cons, List.nodup_cons] at nd2
  have pa : p ≠ a := fun z => nd2.1 (by rw [← z]; exact List.mem_cons_of_mem _ hpm)
  have pdx : p ≠ dx := fun z => nd2.2.1 (by rw [← z]; exact hpm)
  have hg' : upd H p (.lst vs') a = some (.ins C dx gs) := by rw [upd_ne (Ne.symm pa)]; exact hg
  have e1 : fpOf (upd H p (.lst vs')) a (.ins c (putFd f (.l xs') fs)) = fpOf H a (.ins c fs) := by rw [fpOf_ins' hg', e0, k2]
  refine ⟨hin, (hpp p hin).1, ⟨⟨C, dx, gs, hC, hg', by rw [upd_ne (Ne.symm pdx)]; exact hdx, hk.trans k1.symm, fun q hq' => ?_⟩, by rw [e1]; exact nd, fun x hx => ?_⟩, e1⟩
  · rcases putFd_mem f (.l xs') hn q hq' with rfl | ⟨q1, q2⟩
    · exact ⟨.ref p, hp, p, vs', rfl, upd_same, hv⟩
    · obtain ⟨u, h1, h2⟩ := hq q q1
      refine ⟨u, h1, ?_⟩
      obtain ⟨g, x⟩ := q
      cases x with
      | d z => exact h2
      | l ys =>
        obtain ⟨p2, vs, rfl, h3, h4⟩ := h2
        have hne : p2 ≠ p := fun z => by
          subst z
          have := fm_apart nd2.2.2 q1 (lookup_mem hl) (p := p2) (by show (gs.lookup g).bind refOf = some p2; rw [h1]; rfl) (by show (gs.lookup f).bind refOf = some p2; rw [hp]; rfl)
          exact q2 (congrArg (·.1) this)
        exact ⟨p2, vs, rfl, by rw [upd_ne hne]; exact h3, h4⟩
  · rw [e1] at hx
    obtain ⟨c1, o, c2, c3⟩ := hpp x hx
    refine ⟨c1, ?_⟩
    by_cases hxp : x = p
    · subst hxp; exact ⟨_, upd_same, fun _ _ z => by cases z⟩
    · exact ⟨o, by rw [upd_ne hxp]; exact c2, c3⟩
theorem ch_upd {F H : Hp} {fp : List Addr} {p : Addr} {o : HO} (fh : Same F H) (hin : p ∈ fp) (hp : F p = none) : Ch F H fp F (upd H p o) := ⟨Same.refl _, fun x o e => by
    have nx : x ≠ p := fun z => by rw [z, hp] at e; cases e
    rw [upd_ne nx]; exact fh x o e, fun x o e n => by
    have nx : x ≠ p := fun z => n (by rw [z]; exact hin)
    rw [upd_ne nx]; exact e, fun x o e => .inl e⟩
section
variable {X : Cx} {W : WX} {e e2 : Expr} {es : List Expr} {g : Ev → R PyData} {l : Ev → R (List Sl)} {pos pos' p p1 p2 p3 apos cpos : Pos} {x y c f f1 f2 m : Str} {fl ps : List Str} {k n : Nat}
/-- x.f.append(e) -/
def sFldApp (i : Nat) (c f : Str) (g : Ev → R PyData) : Ev → R Out := fun env => (bigI c (sget env i)).bind fun fs => match fs.lookup f with
  | some (.l xs) => (g env).bind fun z => if (fs.map (·.1)).Nodup ∧ xs.length ≤ BIG then .ok (.nx (putB i (.ins c (putFd f (.l (xs ++ [z])) fs)) env)) else .bad
  | _ => .bad
theorem ds_fldApp (i : Nat) (T : ClsF X.K X.mg c fl) (he : DE X W e g) (hf : f ∈ fl := by decide) (hN : X.N[i]? = some x := by rfl) (hv : Vis X.env.scope x := by first | exact Or.inl rfl | exact Or.inr (Or.inl rfl) | exact Or.inr (Or.inr rfl)) (hd : (x == ("__debug__" : Str)) = false := by decide) (hcd : (x == ("__classdict__" : Str)) = false := by decide)
    (hb : attributeBase (.Name x p) f X.env (eval (.Name x p) X.env) = eval (.Name x p) X.env := by rfl) (hse : starEach (e :: []) X.env = (false, eval e X.env) :: starEach [] X.env := by rfl)
    (hbase : attributeBase (.Attribute (.Name x p) f p2) "append" X.env (eval (.Attribute (.Name x p) f p2) X.env) = eval (.Attribute (.Name x p) f p2) X.env := by rfl)
    (hfew : ((backTo cpos (starEach (e :: []) X.env)).all (fun x => !x.1) && (backToKw cpos (keywordEach [] X.env)).all (fun x => x.1.isSome)
      && decide ((e :: []).length + ([] : List Keyword).length + (if ([] : List Keyword).isEmpty then 0 else 1) < 30)) = true := by rfl)
    (hline : (apos.endLine == cpos.line) = true := by rfl) (hplain : (backTo cpos (starEach [] X.env)).any (·.1) = false := by rfl)
    (hs : swapsWith (.Call (.Attribute (.Attribute (.Name x p) f p2) "append" apos) [e] [] cpos) none pos.line X.env = pure false := by rfl) :
    DS X W (.Expr (.Call (.Attribute (.Attribute (.Name x p) f p2) "append" apos) [e] [] cpos) pos) (sFldApp i c f g) :=
  pre_S (ps_expr (pe_bm PySem.F.plainAttrs_list PySem.F.slot_list_append PySem.F.type_list_append mt_append (pe_fld (pe_var hN hv hd hcd) hb) (pa_cons he pa_nil hse) hbase hfew hline hse hplain) hs) fun D σ H ⟨F0, H0, F, env, gr, rl, pp⟩ => by
  obtain ⟨fs, e0, e1, pp⟩ := bigI_run pp
  obtain ⟨a, h1, ⟨C, dx, gs, h2, h3, h4, h5, h6⟩, _⟩ := rl.anyB e1
  obtain ⟨C', t1, t2, t3⟩ := T.ex
  rw [h2] at t1; cases t1
  split at pp
  · rename_i xs e2
    obtain ⟨v, h7, q, vs, rfl, h8, h9⟩ := h6 _ (lookup_mem e2)
    refine ⟨_, h1, a, C, dx, gs, _, rfl, h3, t2, t3 _ hf, h7, .inl ⟨rfl, vs, .inl (.inl h8)⟩, H0, F, env, rl, (Post.bind pp).mono (fun z p1 u F1 H1 g1 qd => ?_) fun c k => excOn gr k⟩
    split at p1
    · rename_i hh
      obtain ⟨a', hσ, ba, kk⟩ := (rl.grow g1).chB (gr.on g1) e0 (F' := F1) (H' := H1) (b' := .ins c fs)
      rw [h1] at hσ; cases hσ
      obtain ⟨C2, dx2, gs2, j2, j3, j4, j5, j6⟩ := id ba.1
      rw [g1.h _ _ h3] at j3; cases j3
      obtain ⟨n1, n2, n3, n4⟩ := ins_lst (vs' := vs ++ [u]) (xs' := xs ++ [z]) ba (g1.h _ _ h3) h2 j4 h5 j6 hh.1 e2 h7 ((h9.mono g1.f).append (.cons qd .nil))
      obtain ⟨z1, z2, _⟩ := kk F1 _ _ (ch_upd g1.fh n1 n2) n3 (fun x hx => .inl (by rw [← n4]; exact hx))
      exact ⟨q, vs, u, rfl, rfl, g1.h _ _ h8, by rw [h9.length]; exact big_lt hh.2, p1 σ F1 _ z1 z2⟩
    · exact p1.elim
  · exact pp.elim
theorem putB_any {env : Ev} {i : Nat} {b b' : Big} (h : bigOf (sget env i) = .ok b) (hi : i < env.length) : bigOf (sget (putB i b' env) i) = .ok b' := by
  unfold putB
  cases e : sget env i with
  | big _ => show bigOf (sget (env.set i (.big b')) i) = _; unfold sget; rw [List.getD_eq_getElem?_getD, List.getElem?_set_self hi]; rfl
  | slf _ => show bigOf (sget (env.set i (.slf b')) i) = _; unfold sget; rw [List.getD_eq_getElem?_getD, List.getElem?_set_self hi]; rfl
  | _ => rw [e] at h; cases h
theorem putB_twice {env : Ev} {i : Nat} {b b1 b2 : Big} (h : bigOf (sget env i) = .ok b) (hi : i < env.length) : putB i b2 (putB i b1 env) = putB i b2 env := by
  unfold putB
  cases e : sget env i with
  | big _ =>
    have : sget (env.set i (.big b1)) i = .big b1 := by unfold sget; rw [List.getD_eq_getElem?_getD, List.getElem?_set_self hi]; rfl
    dsimp only
    rw [this]
    show (env.set i (.big b1)).set i (.big b2) = _
    rw [List.set_set]
  | slf _ =>
    have : sget (env.set i (.slf b1)) i = .slf b1 := by unfold sget; rw [List.getD_eq_getElem?_getD, List.getElem?_set_self hi]; rfl
    dsimp only
    rw [this]
    show (env.set i (.slf b1)).set i (.slf b2) = _
    rw [List.set_set]
  | _ => rw [e] at h; cases h
/-- x.f = x.f2.pop() -/
def sFldPop (i : Nat) (c f f2 : Str) : Ev → R Out := fun env => (bigI c (sget env i)).bind fun fs => match fs.lookup f2 with
  | some (.l xs) => (match xs.getLast? with
    | some z => if (fs.map (·.1)).Nodup ∧ fs.length < 100 ∧ i < env.length then .ok (.nx (putB i (.ins c (putFd f (.d z) (putFd f2 (.l xs.dropLast) fs))) env)) else .bad
    | none => .bad)
  | _ => .bad
theorem ds_fldPop (i : Nat) (T : ClsF X.K X.mg c fl) (hf : f ∈ fl := by decide) (hf2 : f2 ∈ fl := by decide) (hN : X.N[i]? = some x := by rfl) (hv : Vis X.env.scope x := by first | exact Or.inl rfl | exact Or.inr (Or.inl rfl) | exact Or.inr (Or.inr rfl)) (hd : (x == ("__debug__" : Str)) = false := by decide) (hcd : (x == ("__classdict__" : Str)) = false := by decide)
    (hb : attributeBase (.Name x p) f2 X.env (eval (.Name x p) X.env) = eval (.Name x p) X.env := by rfl) (hbase : attributeBase (.Attribute (.Name x p) f2 p2) "pop" X.env (eval (.Attribute (.Name x p) f2 p2) X.env) = eval (.Attribute (.Name x p) f2 p2) X.env := by rfl) (hline : (apos.endLine == cpos.line) = true := by rfl)
    (hs : swapsWith (.Call (.Attribute (.Attribute (.Name x p) f2 p2) "pop" apos) [] [] cpos) (some (.Attribute (.Name x p3) f pos')) pos.line X.env = pure false := by rfl) :
    DS X W (.Assign [.Attribute (.Name x p3) f pos'] (.Call (.Attribute (.Attribute (.Name x p) f2 p2) "pop" apos) [] [] cpos) pos) (sFldPop i c f f2) :=
  pre_S (ps_fld (pe_var hN hv hd hcd) (pe_bm0 PySem.F.plainAttrs_list PySem.F.slot_list_pop PySem.F.type_list_pop mt_pop (pe_fld (pe_var hN hv hd hcd) hb) hbase hline) hs) fun D σ H ⟨F0, H0, F, env, gr, rl, pp⟩ => by
  obtain ⟨fs, e0, e1, pp⟩ := bigI_run pp
  obtain ⟨C', t1, t2, t3⟩ := T.ex
  split at pp
  · rename_i xs e2
    split at pp
    · rename_i z e3
      split at pp
      · rename_i hh
        obtain ⟨a, h1, ba, kk⟩ := rl.chB gr e0 (F' := F) (H' := H) (b' := .ins c fs)
        obtain ⟨C, dx, gs, h2, h3, h4, h5, h6⟩ := id ba.1
        rw [h2] at t1; cases t1
        obtain ⟨v, h7, q, vs, rfl, h8, h9⟩ := h6 _ (lookup_mem e2)
        obtain ⟨u, l1, l2, l3⟩ := h9.last e3
        obtain ⟨n1, n2, n3, n4⟩ := ins_lst (vs' := vs.dropLast) (xs' := xs.dropLast) ba h3 h2 h4 h5 h6 hh.1 e2 h7 l3
        obtain ⟨z1, z2, _⟩ := kk F _ _ (ch_upd rl.fh n1 n2) n3 (fun x hx => .inl (by rw [← n4]; exact hx))
        have hk1 := (putFd_same (gs := gs) (f := f2) (y := .l xs) (y' := .l xs.dropLast) (fun _ => rfl) e2).1
        obtain ⟨a2, i1, ba2, kk2⟩ := z2.chB z1 (putB_any e0 hh.2.2) (F' := F) (H' := upd H q (.lst vs.dropLast)) (b' := .ins c fs)
        rw [h1] at i1; cases i1
        obtain ⟨C2, dx2, gs2, j2, j3, j4, j5, j6⟩ := id ba2.1
        rw [h2] at j2; cases j2
        obtain ⟨m1, m2⟩ := ins_put (f := f) (v := u) (y := .d z) ba2 j3 h2 j4 j5 j6 (by rw [hk1]; exact hh.1) (fun _ _ e => e) l2 (fun p hp => by cases hp)
        obtain ⟨y1, y2, _⟩ := kk2 F _ _ (ch_upd z2.fh fpOf_self (ba2.2.2 a fpOf_self).1) m1 m2
        rw [putB_twice e0 hh.2.2] at y2
        exact ⟨_, h1, a, C', dx, gs, _, rfl, h3, t2, t3 _ hf2, h7, .inl ⟨rfl, vs, .inl (.inl h8)⟩, q, vs, u, rfl, rfl, h8, l1, _, h1, a, C', dx2, gs2, rfl, j3, t2, t3 _ hf, by rw [← List.length_map (f := (·.1)), j5, hk1, List.length_map]; omega, pp σ F _ y1 y2⟩
      · exact pp.elim
    · exact pp.elim
  · exact pp.elim
end
/-! ### raise in a def with its own first argument -/
def sRaiseB (c : Str) : Ev → R Out := fun env => match sget env 0 with
  | .slf b => .ok (.ex b c)
  | _ => .bad
section
variable {X : Cx} {W : WX} {x : Str} {p p2 pos cpos : Pos}
theorem ds_raiseB {m : Str} {j : Nat} (XX : ExcAt X.K X.mg x) (tk : Takes X W) (hc : X.calm = true := by rfl) (hg : Gl X x := by rfl) (hdb : (x == ("__debug__" : Str)) = false := by decide) : DS X W (.Raise (some (.Call (.Name x p) [.Constant (.str m) j p2] [] pos)) none cpos) (sRaiseB x) := by
  obtain ⟨C, gC, q, kC, bC, tC⟩ := XX.ex
  refine pre_S (ps_raise hc tk (pmk_own PySem.F.excBase_ValueError q gC kC (raises_own bC tC) hg hdb)) fun D σ H ⟨F0, H0, F, env, gr, rl, pp⟩ => ?_
  unfold sRaiseB at pp
  cases e : sget env 0 with
  | slf b =>
    rw [e] at pp
    obtain ⟨w, _, e1, s1⟩ := rl.at_ e (by intro z; cases z)
    obtain ⟨a, e2, e3, _⟩ := id s1
    have e4 : w = some (.ref H0.sa) := by rw [e2, e3]
    rw [e4] at s1 e1
    have k : W (cav X.mg x) none σ H := pp σ F H gr e1 s1
    unfold cav at k
    rw [gC] at k
    exact k
  | _ => rw [e] at pp; exact pp.elim
end
/-! ### methods -/
structure CalM (P : Program) (w : World) (K : PySem.W.Frag) (mg : Mg) (base : Heap) (k : Nat) (c m : Str) (ps : List Str) (mf : List Sl → R PyData) : Prop where
  ex : ∃ (C fa : Addr) (fd : FuncData), Fn P w K mg base k fa fd ps mf ∧ mg c = some (.ref C) ∧ Cls K C ∧ Meth K C m fa ∧ Binds K fd ps []
structure CalMB (P : Program) (w : World) (K : PySem.W.Frag) (mg : Mg) (base : Heap) (k : Nat) (c m : Str) (ps : List Str) (mf : Big → List Sl → R ResB) : Prop where
  ex : ∃ (C fa : Addr) (fd : FuncData), FnB P w K mg base k fa fd ps mf ∧ mg c = some (.ref C) ∧ Cls K C ∧ Meth K C m fa ∧ Binds K fd ps []
structure CalI (P : Program) (w : World) (K : PySem.W.Frag) (mg : Mg) (base : Heap) (k : Nat) (c : Str) (ps : List Str) (mf : Big → List Sl → R ResB) : Prop where
  ex : ∃ (C fa : Addr) (fd : FuncData), FnB P w K mg base k fa fd ps mf ∧ mg c = some (.ref C) ∧ Mk K C fa ∧ Binds K fd ps []
theorem nolook {gs : List (Str × V)} {fs : List (Str × Fld)} {m : Str} (h : gs.map (·.1) = fs.map (·.1)) (hm : m ∉ fs.map (·.1)) : gs.lookup m = none := lookup_none (by rw [h]; exact hm)
section
variable {X : Cx} {W : WX} {e : Expr} {es : List Expr} {l : Ev → R (List Sl)} {pos p p1 p2 apos cpos : Pos} {x y c m : Str} {k n : Nat} {ps : List Str}
def tMethS (C : Addr) (m : Str) (sp : Sp) (E : L2.St → XK) (ta : TE) (t : TA) : TE := fun σ H Q => ta σ H fun x H1 => ∃ a dx fs, x = .ref a ∧ H1 a = some (.ins C dx fs) ∧ fs.lookup m = none ∧ t σ H1 fun vs H2 => sp (x :: vs) H2 Q (E σ)
theorem pe_methS {CX : CXT} {C f : Addr} {fd : FuncData} {sp : Sp} {E : L2.St → XK} {o : Expr} {ta : TE} {t : TA} {pl : Sem Bool} (he : PE X o ta) (c : Cls X.K C) (hm : Meth X.K C m f) (F : FnOk X.prog X.w X.K X.mg X.base CX k f fd ps sp) (hr : Room k X.A) (hb : Binds X.K fd ps []) (hx : ∀ σ, PassesAt CX X σ (E σ)) (ha : PA X (e :: es) t)
    (hst : starEach (e :: es) X.env = (false, eval e X.env) :: starEach es X.env) (hpl : (backTo pos (starEach es X.env)).any (·.1) = false)
    (ht : eval (.Call (.Attribute o m apos) (e :: es) [] pos) X.env = (do
      let ov ← eval o X.env
      standAt apos.atName
      let (f, first) ← holding [ov] (getMethod ov m pl)
      callWith pos f first (backTo pos (starEach (e :: es) X.env)) (backToKw pos (keywordEach [] X.env)))) : PE X (.Call (.Attribute o m apos) (e :: es) [] pos) (tMethS C m sp E ta t) := by
  constructor
  intro pins s σ H Q I h
  apply PySem.W.methodCall_KW (pl := pl) _ ht
  refine thn (he.run pins s σ H _ I h) fun u s1 ⟨x, H1, I1, rx, h1⟩ => ?_
  obtain ⟨a, dx, fs, rfl, ea, l, q⟩ := h1
  cases rx
  apply getmeth_ok I1 ea c hm l
  refine PySem.W.callWith_K (first := [.ref a]) (h₀ := X.base) I1.ok.mod.kin hm.kp (thn (ha.run pos pins s1 σ H1 _ I1 q) fun us s2 ⟨vs, H2, I2, r, q2⟩ => ⟨I2.kIn, run_fnS (us := .ref a :: us) (vs := .ref a :: vs) F hr hb (hx σ) I2 (.cons rfl r) q2⟩) hst hpl
theorem pe_methS0 {CX : CXT} {C f : Addr} {fd : FuncData} {sp : Sp} {E : L2.St → XK} {o : Expr} {ta : TE} {pl : Sem Bool} (he : PE X o ta) (c : Cls X.K C) (hm : Meth X.K C m f) (F : FnOk X.prog X.w X.K X.mg X.base CX k f fd ps sp) (hr : Room k X.A) (hb : Binds X.K fd ps []) (hx : ∀ σ, PassesAt CX X σ (E σ))
    (ht : eval (.Call (.Attribute o m apos) [] [] pos) X.env = (do
      let ov ← eval o X.env
      standAt apos.atName
      let (f, first) ← holding [ov] (getMethod ov m pl)
      callWith pos f first (backTo pos (starEach [] X.env)) (backToKw pos (keywordEach [] X.env)))) : PE X (.Call (.Attribute o m apos) [] [] pos) (tMethS C m sp E ta tNil) := by
  constructor
  intro pins s σ H Q I h
  apply PySem.W.methodCall_KW (pl := pl) _ ht
  refine thn (he.run pins s σ H _ I h) fun u s1 ⟨x, H1, I1, rx, h1⟩ => ?_
  obtain ⟨a, dx, fs, rfl, ea, l, q⟩ := h1
  cases rx
  apply getmeth_ok I1 ea c hm l
  exact PySem.W.callWith_K0 (first := [.ref a]) I1.kIn hm.kp (run_fnS (us := [.ref a]) (vs := [.ref a]) F hr hb (hx σ) I1 (.cons rfl .nil) q)
/-- x.m(..), x only read -/
def dMeth (i : Nat) (c m : Str) (n : Nat) (mf : List Sl → R PyData) (l : Ev → R (List Sl)) : Ev → R PyData := fun env => (insOf c (sget env i)).bind fun fs => if m ∉ fs.map (·.1) then (l env).bind fun ss => if ss.length + 1 = n then mf (.bor (.ins c fs) :: ss) else .bad else .bad
theorem meth_run {mf : List Sl → R PyData} (i : Nat) {C : Addr} (hC : X.mg c = some (.ref C)) {σ : L2.St} {H : Hp} {Q : VK} (pp : tD X.K X.mg W (dMeth i c m ps.length mf l) σ H Q) :
    tMethS C m (spD X.K X.mg mf ps.length) (WE W) (tVar i) (tDA X.K X.mg W l) σ H Q := by
  obtain ⟨H0, F, env, rl, pp⟩ := pp
  obtain ⟨fs, e1, pp⟩ := ins_run pp
  obtain ⟨a, h1, ba, _⟩ := rl.anyB e1
  obtain ⟨C', dx, gs, h2, h3, h4, h5, h6⟩ := id ba
  rw [hC] at h2; cases h2
  split at pp
  · rename_i hm
    refine ⟨_, h1, a, dx, gs, rfl, h3, nolook h5 hm, H0, F, env, rl, (Post.bind pp).mono (fun ss p1 vs F1 H1 g1 b1 => ?_) fun c p1 => p1⟩
    split at p1
    · rename_i hh
      obtain ⟨a', h1', ba', hx'⟩ := (rl.grow g1).anyB e1
      rw [h1] at h1'; cases h1'
      exact ⟨F1, .bor (.ins c fs) :: ss, g1.fh, ⟨⟨a, rfl, ba', fun x hx => (hx' x hx).imp fun o z => ⟨z, z⟩⟩, trivial, b1⟩, hh, p1.mono (fun d k v F' H' g' q => k v F' H' (g1.trans g') q) fun c k F' H' g' => k F' H' (g1.trans g')⟩
    · exact p1.elim
  · exact pp.elim
theorem de_meth {mf : List Sl → R PyData} {pl : Sem Bool} (i : Nat) (M : CalM X.prog X.w X.K X.mg X.base k c m ps mf) (hr : Room k X.A) (tk : Takes X W) (ha : DA X W (e :: es) l) (hn : ps.length = n := by rfl) (hN : X.N[i]? = some x := by rfl) (hv : Vis X.env.scope x := by first | exact Or.inl rfl | exact Or.inr (Or.inl rfl) | exact Or.inr (Or.inr rfl)) (hd : (x == ("__debug__" : Str)) = false := by decide) (hcd : (x == ("__classdict__" : Str)) = false := by decide)
    (hst : starEach (e :: es) X.env = (false, eval e X.env) :: starEach es X.env := by rfl) (hpl : (backTo pos (starEach es X.env)).any (·.1) = false := by rfl)
    (ht : eval (.Call (.Attribute (.Name x p) m apos) (e :: es) [] pos) X.env = (do
      let ov ← eval (.Name x p) X.env
      standAt apos.atName
      let (f, first) ← holding [ov] (getMethod ov m pl)
      callWith pos f first (backTo pos (starEach (e :: es) X.env)) (backToKw pos (keywordEach [] X.env))) := by rfl) : DE X W (.Call (.Attribute (.Name x p) m apos) (e :: es) [] pos) (dMeth i c m n mf l) := by
  subst hn
  obtain ⟨C, fa, fd, F, hC, c0, hm, hb⟩ := M.ex
  exact pre_E (pe_methS (pe_var hN hv hd hcd) c0 hm F hr hb (fun σ => passAt tk σ) ha hst hpl ht) fun σ H Q pp => meth_run i hC pp
theorem de_meth0 {mf : List Sl → R PyData} {pl : Sem Bool} (i : Nat) (M : CalM X.prog X.w X.K X.mg X.base k c m ps mf) (hr : Room k X.A) (tk : Takes X W) (hn : ps.length = n := by rfl) (hN : X.N[i]? = some x := by rfl) (hv : Vis X.env.scope x := by first | exact Or.inl rfl | exact Or.inr (Or.inl rfl) | exact Or.inr (Or.inr rfl)) (hd : (x == ("__debug__" : Str)) = false := by decide) (hcd : (x == ("__classdict__" : Str)) = false := by decide)
    (ht : eval (.Call (.Attribute (.Name x p) m apos) [] [] pos) X.env = (do
      let ov ← eval (.Name x p) X.env
      standAt apos.atName
      let (f, first) ← holding [ov] (getMethod ov m pl)
      callWith pos f first (backTo pos (starEach [] X.env)) (backToKw pos (keywordEach [] X.env))) := by rfl) : DE X W (.Call (.Attribute (.Name x p) m apos) [] [] pos) (dMeth i c m n mf aNil) := by
  subst hn
  obtain ⟨C, fa, fd, F, hC, c0, hm, hb⟩ := M.ex
  exact pre_E (pe_methS0 (pe_var hN hv hd hcd) c0 hm F hr hb (fun σ => passAt tk σ) ht) fun σ H Q pp => by
    obtain ⟨v, h1, a, dx, fs, e1, e2, e3, h2⟩ := meth_run i hC pp
    refine ⟨v, h1, a, dx, fs, e1, e2, e3, ?_⟩
    obtain ⟨H0, F, env, rl, p⟩ := h2
    have p : ∀ vs F' H', Grow F H F' H' → SlA X.K X.mg F' H' vs [] → _ := p
    exact p [] F H (.refl rl.fh) trivial
/-- x.m(..), x changed -/
def sMethB (j : Nat) (c m : Str) (n : Nat) (mf : Big → List Sl → R ResB) (l : Ev → R (List Sl)) (tgt : Ev → PyData → Ev) : Ev → R Out := fun env => (bigI c (sget env j)).bind fun fs => if m ∉ fs.map (·.1) then sCallB j n mf l tgt env else .bad
theorem methB_run {mf : Big → List Sl → R ResB} (j : Nat) {C : Addr} (hC : X.mg c = some (.ref C)) {D : Ends} {σ : L2.St} {H : Hp} {tgt : Ev → PyData → Ev} {Q : VK} (pp : tDS X.K X.mg W (sMethB j c m ps.length mf l tgt) D σ H)
    (hQ : ∀ (F0 : Hp) (H0 : G0) (F' H' : Hp) (env' : Ev) (d : PyData) (v : V), Grow F0 H0 F' H' → Rl X.K X.mg H0 env' σ F' H' → Dq F' v d → OutP X.K X.mg W F0 H0 D (.nx (tgt env' d)) → Q v H') :
    tMethS C m (spB X.K X.mg mf ps.length) (fun σ cls d H => W cls d σ H) (tVar j) (tDA X.K X.mg W l) σ H Q := by
  obtain ⟨F0, H0, F, env, gr, rl, p⟩ := pp
  obtain ⟨fs, e0, e1, p⟩ := bigI_run p
  split at p
  · rename_i hm
    obtain ⟨a, h1, ⟨C', dx, gs, h2, h3, h4, h5, h6⟩, _⟩ := rl.anyB e1
    rw [hC] at h2; cases h2
    obtain ⟨v, k1, k2⟩ := callB_run (ps := ps) j (tgt := tgt) (Q := Q) (D := D) ⟨F0, H0, F, env, gr, rl, p⟩ hQ
    rw [h1] at k1; cases k1
    exact ⟨_, h1, a, dx, gs, rfl, h3, nolook h5 hm, k2⟩
  · exact p.elim
theorem ds_methB {mf : Big → List Sl → R ResB} {pl : Sem Bool} (j : Nat) (M : CalMB X.prog X.w X.K X.mg X.base k c m ps mf) (hr : Room k X.A) (tk : Takes X W) (ha : DA X W (e :: es) l) (hn : ps.length = n := by rfl) (hN : X.N[j]? = some x := by rfl) (hv : Vis X.env.scope x := by first | exact Or.inl rfl | exact Or.inr (Or.inl rfl) | exact Or.inr (Or.inr rfl)) (hd : (x == ("__debug__" : Str)) = false := by decide) (hcd : (x == ("__classdict__" : Str)) = false := by decide)
    (hst : starEach (e :: es) X.env = (false, eval e X.env) :: starEach es X.env := by rfl) (hpl : (backTo cpos (starEach es X.env)).any (·.1) = false := by rfl)
    (ht : eval (.Call (.Attribute (.Name x p) m apos) (e :: es) [] cpos) X.env = (do
      let ov ← eval (.Name x p) X.env
      standAt apos.atName
      let (f, first) ← holding [ov] (getMethod ov m pl)
      callWith cpos f first (backTo cpos (starEach (e :: es) X.env)) (backToKw cpos (keywordEach [] X.env))) := by rfl) (hs : swapsWith (.Call (.Attribute (.Name x p) m apos) (e :: es) [] cpos) none pos.line X.env = pure false := by rfl) : DS X W (.Expr (.Call (.Attribute (.Name x p) m apos) (e :: es) [] cpos) pos) (sMethB j c m n mf l fun env _ => env) := by
  subst hn
  obtain ⟨C, fa, fd, F, hC, c0, hm, hb⟩ := M.ex
  exact pre_S (ps_expr (pe_methS (pe_var hN hv hd hcd) c0 hm F hr hb (fun σ => passAt tk σ) ha hst hpl ht) hs) fun D σ H pp => methB_run j hC pp fun F0 H0 F' H' env' d v gr rl q k => k σ F' H' gr rl
theorem ds_methB0 {mf : Big → List Sl → R ResB} {pl : Sem Bool} (j : Nat) (M : CalMB X.prog X.w X.K X.mg X.base k c m ps mf) (hr : Room k X.A) (tk : Takes X W) (hn : ps.length = n := by rfl) (hN : X.N[j]? = some x := by rfl) (hv : Vis X.env.scope x := by first | exact Or.inl rfl | exact Or.inr (Or.inl rfl) | exact Or.inr (Or.inr rfl)) (hd : (x == ("__debug__" : Str)) = false := by decide) (hcd : (x == ("__classdict__" : Str)) = false := by decide)
    (ht : eval (.Call (.Attribute (.Name x p) m apos) [] [] cpos) X.env = (do
      let ov ← eval (.Name x p) X.env
      standAt apos.atName
      let (f, first) ← holding [ov] (getMethod ov m pl)
      callWith cpos f first (backTo cpos (starEach [] X.env)) (backToKw cpos (keywordEach [] X.env))) := by rfl) (hs : swapsWith (.Call (.Attribute (.Name x p) m apos) [] [] cpos) none pos.line X.env = pure false := by rfl) : DS X W (.Expr (.Call (.Attribute (.Name x p) m apos) [] [] cpos) pos) (sMethB j c m n mf aNil fun env _ => env) := by
  subst hn
  obtain ⟨C, fa, fd, F, hC, c0, hm, hb⟩ := M.ex
  exact pre_S (ps_expr (pe_methS0 (pe_var hN hv hd hcd) c0 hm F hr hb (fun σ => passAt tk σ) ht) hs) fun D σ H pp => by
    obtain ⟨v, h1, a, dx, fs, e1, e2, e3, h2⟩ := methB_run (W := W) j hC pp (Q := fun v H1 => D.nx σ H1) fun F0 H0 F' H' env' d v gr rl q k => k σ F' H' gr rl
    refine ⟨v, h1, a, dx, fs, e1, e2, e3, ?_⟩
    obtain ⟨H0, F, env, rl, p⟩ := h2
    have p : ∀ vs F' H', Grow F H F' H' → SlA X.K X.mg F' H' vs [] → _ := p
    exact p [] F H (.refl rl.fh) trivial
/-- x = C(..) -/
def sMake (i : Nat) (c : Str) (n : Nat) (mf : Big → List Sl → R ResB) (l : Ev → R (List Sl)) : Ev → R Out := fun env => (l env).bind fun ss => if ss.length + 1 = n ∧ ss.all plain = true then (noexc (mf (.ins c []) ss)).bind fun r => match r.1 with
    | .ok .none => .ok (.nx (env.set i (.big r.2)))
    | _ => .bad
  else .bad
theorem ds_make {mf : Big → List Sl → R ResB} (i : Nat) (M : CalI X.prog X.w X.K X.mg X.base k c ps mf) (hr : Room (k + 1) X.A) (tk : Takes X W) (hNd : X.N.Nodup) (ha : DA X W (e :: es) l) (hn : ps.length = n := by rfl) (hi : X.N[i]? = some x := by rfl) (hx : L2.Loc X.env.scope x := by first | exact Or.inl rfl | exact Or.inr rfl) (hg : Gl X c := by rfl) (hdb : (c == ("__debug__" : Str)) = false := by decide)
    (he : starEach (e :: es) X.env = (false, eval e X.env) :: starEach es X.env := by rfl) (hpl : (backTo cpos (starEach es X.env)).any (·.1) = false := by rfl) (hs : swapsWith (.Call (.Name c p) (e :: es) [] cpos) (some (.Name x p2)) pos.line X.env = pure false := by rfl) (hf : X.fn x = true ∨ X.env.scope.names.lookup x = some .local := by first | exact .inl rfl | exact .inr rfl) :
    DS X W (.Assign [.Name x p2] (.Call (.Name c p) (e :: es) [] cpos) pos) (sMake i c n mf l) := by
  subst hn
  obtain ⟨C, fa, fd, F, hC, mk, hb⟩ := M.ex
  refine pre_S (ps_set hNd hi hx (pe_make (E := fun cls d H => ∀ σ, W cls d σ H) mk F hr hg hC hb .nil (fun pins σ H s e s' I c => tk e s' (XE.of_call I (fun _ _ _ h => h σ) c)) ha hdb he hpl) hs hf) fun D σ H ⟨F0, H0, F, env, gr, rl, pp⟩ => ?_
  refine ⟨H0, F, env, rl, (Post.bind pp).mono (fun ss p1 vs F1 H1 g1 b1 => ?_) fun c k => excOn gr k⟩
  split at p1
  · rename_i hh
    intro o dx no ndx hne
    rw [List.append_nil]
    have gr1 := gr.on g1
    have rl1 := rl.grow g1
    have hs1 : ∀ z u, H1 z = some u → upd (upd H1 dx (.own o)) o (.ins C dx []) z = some u := fun z u e => by
      have h1 : z ≠ o := fun q => by rw [q, no] at e; cases e
      have h2 : z ≠ dx := fun q => by rw [q, ndx] at e; cases e
      rw [upd_ne h1, upd_ne h2]; exact e
    have hnn : ∀ z, upd (upd H1 dx (.own o)) o (.ins C dx []) z = none → H1 z = none := fun z e => by
      cases q : H1 z with
      | none => rfl
      | some u => rw [hs1 z u q] at e; cases e
    have hin : upd (upd H1 dx (.own o)) o (.ins C dx []) o = some (.ins C dx []) := upd_same
    have efp : fpOf (upd (upd H1 dx (.own o)) o (.ins C dx [])) o (.ins c []) = [o, dx] := fpOf_ins' hin
    have hfpn : ∀ z ∈ [o, dx], H1 z = none := fun z hz => by
      rcases List.mem_cons.mp hz with rfl | hz
      · exact no
      · rw [List.mem_singleton.mp hz]; exact ndx
    refine ⟨F1, o, .ins c [], vs, ss, rfl, fun z u e => hs1 z u (g1.fh z u e), ⟨⟨C, dx, [], hC, hin, by rw [upd_ne hne, upd_same], rfl, fun q hq => by cases hq⟩, by rw [efp]; simp [Ne.symm hne], fun z hz => ?_⟩, b1.grow ⟨Same.refl _, hs1, fun z u e => hs1 z u (g1.fh z u e), fun _ _ e => .inl e⟩, hh.1, hh.2, ?_⟩
    · rw [efp] at hz
      refine ⟨g1.fh.free (hfpn z hz), ?_⟩
      rcases List.mem_cons.mp hz with rfl | hz
      · exact ⟨_, hin, fun _ _ z => by cases z⟩
      · rw [List.mem_singleton.mp hz]; exact ⟨.own o, by rw [upd_ne hne, upd_same], fun _ _ z => by cases z⟩
    · refine (noexc_post (Post.bind p1)).mono (fun r p2 F' H' ch ba' nf => ?_) fun c k => k.elim
      obtain ⟨r1, r2⟩ := r
      cases r1 with
      | error c => exact p2.elim
      | ok d =>
        cases d <;> first | exact p2.elim | skip
        intro v q
        cases q
        refine ⟨rfl, ?_⟩
        rw [efp] at ch nf
        have hk : ∀ z u, H1 z = some u → H' z = some u := fun z u e => ch.k z u (hs1 z u e) fun hz => by rw [hfpn z hz] at e; cases e
        have hnew : ∀ z ∈ fpOf H' o r2, H1 z = none := fun z hz => by
          rcases nf z hz with y | y
          · exact hfpn z y
          · exact hnn z y
        refine p2 _ F' H' ⟨gr1.f.trans ch.f, fun z u e => hk z u (gr1.h z u e), ch.fh, fun z u e => ?_⟩ (rl1.put i ch.f ch.fh (fun z u e _ => hk z u e) (fun j t u z _ h1 h2 hz => ?_) ⟨o, rfl, ba'.1, ba'.2.1, fun z hz => ⟨gr1.h.free (hnew z hz), ba'.2.2 z hz⟩⟩ fun j t u z _ h1 h2 hz hz' => ?_)
        · rcases ch.nw z u e with y | y | y
          · exact gr1.nw z u y
          · exact .inr (gr1.h.free (hnn z y))
          · exact .inr (gr1.h.free (hfpn z y))
        · obtain ⟨_, f, u2, hu, _⟩ := (rl1.sl j t u h1 h2).part hz
          cases e : F' z with
          | none => rfl
          | some u3 =>
            rcases ch.nw z u3 e with y | y | y
            · rw [f] at y; cases y
            · rw [hnn z y] at hu; cases hu
            · rw [hfpn z y] at hu; cases hu
        · exact rl1.apart h1 h2 hz (hnew z hz')
  · exact p1.elim
end
section
variable {P : Program} {w : World} {K : PySem.W.Frag} {mg : Mg} {base : Heap} {c m qual : Str} {st : Stmt} {C fa : Addr} {fd : FuncData} {N ps : List Str} {k : Nat} {g : Ev → R Out}
theorem calM_mk (F : FunD K m qual (defArgs st) (defBody st) (defScope st) [] [] fa fd) (hC : mg c = some (.ref C)) (hc : Cls K C) (hm : Meth K C m fa) (S : FnScope N ps (defScope st))
    (hbind : ∀ (kV doc pm : Value) (an : Option Addr) (cdv ct : Value) (us : List Value), us.length = ps.length → bindArgs (PySem.W.fnOf m qual (defArgs st) (defBody st) (defScope st) .none kV doc pm an cdv ct) ⟨us, []⟩ = pure (ps.zip us))
    (hb : ∀ (cdv : Value) (A : Around) (outer : List Env) (s : Shared) (H : Hp) (E : XK), Room k (A.deeper (envOfC qual (defScope st) s.heap.objs.size fa cdv)) → DSs (cxOf (L2.CX P w) P w K mg base N qual (defScope st) fa cdv A outer s H E) (fun cls d _ H => E cls d H) (defBody st) g) :
    CalM P w K mg base (k + 1) c m ps (den N.length g) := ⟨C, fa, fd, fn_okD F S hb, hC, hc, hm, F.bindsN hbind⟩
theorem calMB_mk (F : FunD K m qual (defArgs st) (defBody st) (defScope st) [] [] fa fd) (hC : mg c = some (.ref C)) (hc : Cls K C) (hm : Meth K C m fa) (S : FnScope N ps (defScope st))
    (hbind : ∀ (kV doc pm : Value) (an : Option Addr) (cdv ct : Value) (us : List Value), us.length = ps.length → bindArgs (PySem.W.fnOf m qual (defArgs st) (defBody st) (defScope st) .none kV doc pm an cdv ct) ⟨us, []⟩ = pure (ps.zip us))
    (hb : ∀ (cdv : Value) (A : Around) (outer : List Env) (s : Shared) (H : Hp) (E : XK), Room k (A.deeper (envOfC qual (defScope st) s.heap.objs.size fa cdv)) → DSs (cxOf (L2.CX P w) P w K mg base N qual (defScope st) fa cdv A outer s H E) (fun cls d _ H => E cls d H) (defBody st) g) :
    CalMB P w K mg base (k + 1) c m ps (denB N.length g) := ⟨C, fa, fd, fnB_ok F S hb, hC, hc, hm, F.bindsN hbind⟩
theorem calI_mk (F : FunD K m qual (defArgs st) (defBody st) (defScope st) [] [] fa fd) (hC : mg c = some (.ref C)) (mk : Mk K C fa) (S : FnScope N ps (defScope st))
    (hbind : ∀ (kV doc pm : Value) (an : Option Addr) (cdv ct : Value) (us : List Value), us.length = ps.length → bindArgs (PySem.W.fnOf m qual (defArgs st) (defBody st) (defScope st) .none kV doc pm an cdv ct) ⟨us, []⟩ = pure (ps.zip us))
    (hb : ∀ (cdv : Value) (A : Around) (outer : List Env) (s : Shared) (H : Hp) (E : XK), Room k (A.deeper (envOfC qual (defScope st) s.heap.objs.size fa cdv)) → DSs (cxOf (L2.CX P w) P w K mg base N qual (defScope st) fa cdv A outer s H E) (fun cls d _ H => E cls d H) (defBody st) g) :
    CalI P w K mg base (k + 1) c ps (denB N.length g) := ⟨C, fa, fd, fnB_ok F S hb, hC, mk, F.bindsN hbind⟩
end
end L3

namespace L3
open PySem PySem.Spec PyProof.Rows L2
section
variable {X : Cx} {W : WX} {e : Expr} {es : List Expr} {f : Ev → R PyData} {l : Ev → R (List Sl)} {pos p p1 p2 apos cpos : Pos} {x y c m : Str} {k n : Nat} {ps : List Str}
/-! ### an object handed on, to be read -/
def aBor (i : Nat) (l : Ev → R (List Sl)) : Ev → R (List Sl) := fun env => match anyB (sget env i) with
  | some b => (l env).bind fun ds => .ok (.bor b :: ds)
  | none => .bad
theorem da_bor (i : Nat) (hr : DA X W es l) (hN : X.N[i]? = some x := by rfl) (hv : Vis X.env.scope x := by first | exact Or.inl rfl | exact Or.inr (Or.inl rfl) | exact Or.inr (Or.inr rfl)) (hd : (x == ("__debug__" : Str)) = false := by decide)
    (hcd : (x == ("__classdict__" : Str)) = false := by decide) (hs : starEach (.Name x pos :: es) X.env = (false, eval (.Name x pos) X.env) :: starEach es X.env := by rfl) : DA X W (.Name x pos :: es) (aBor i l) := pre_A (pa_cons (pe_var hN hv hd hcd) hr hs) fun σ H Q ⟨H0, F, env, rl, p⟩ => by
  unfold aBor at p
  cases e : anyB (sget env i) with
  | none => rw [e] at p; exact p.elim
  | some b =>
    rw [e] at p
    obtain ⟨a, e1, e2, e3⟩ := rl.anyB e
    refine ⟨_, e1, H0, F, env, rl, (Post.bind p).mono (fun ds p2 vs F2 H2 g2 b2 => ?_) fun c p2 => p2⟩
    obtain ⟨a', e1', e2', e3'⟩ := (rl.grow g2).anyB e
    rw [e1] at e1'; cases e1'
    exact p2 _ F2 H2 g2 ⟨⟨a, rfl, e2', fun x hx => (e3' x hx).imp fun o z => ⟨z, z⟩⟩, trivial, b2⟩
/-! ### return in a def with its own first argument -/
def sRetB (f : Ev → R PyData) : Ev → R Out := fun env => (f env).bind fun d => match sget env 0 with
  | .slf b => .ok (.rb b d)
  | _ => .bad
theorem rb_run {F0 F H : Hp} {H0 : G0} {env : Ev} {σ : L2.St} {b : Big} (rl : Rl X.K X.mg H0 env σ F H) (e : sget env 0 = .slf b) : SlotR X.K X.mg H0 F H (.slf b) (some (.ref H0.sa)) := by
  obtain ⟨w, _, e1, s1⟩ := rl.at_ e (by intro z; cases z)
  obtain ⟨a, e2, e3, _⟩ := id s1
  rw [e2, e3] at s1
  exact s1
theorem ds_retB (he : DE X W e f) : DS X W (.Return (some e) pos) (sRetB f) := pre_S (ps_ret he) fun D σ H ⟨F0, H0, F, env, gr, rl, p⟩ => by
  refine ⟨H0, F, env, rl, (Post.bind p).mono (fun d p1 v F1 H1 g1 q => ?_) fun c k => excOn gr k⟩
  cases e : sget env 0 with
  | slf b =>
    rw [e] at p1
    exact p1 v F1 H1 (gr.on g1) q (rb_run (F0 := F0) (rl.grow g1) e)
  | _ => rw [e] at p1; exact p1.elim
/-! ### return f(x, ..), f changes x -/
def sRetCallB (j n : Nat) (m : Big → List Sl → R ResB) (l : Ev → R (List Sl)) : Ev → R Out := fun env => (bigOf (sget env j)).bind fun b => (l env).bind fun ss =>
  if ss.length + 1 = n ∧ ss.all plain = true then (noexc (m b ss)).bind fun r => match r.1 with
    | .ok d => .ok (.rt d)
    | .error c => .bad
  else .bad
theorem ds_retCallB {mf : Big → List Sl → R ResB} (j : Nat) (C : CalB X.prog X.w X.K X.mg X.base k x ps mf) (hr : Room k X.A) (tk : Takes X W) (ha : DA X W es l) (hn : ps.length = n := by rfl) (hN : X.N[j]? = some y := by rfl) (hv : Vis X.env.scope y := by first | exact Or.inl rfl | exact Or.inr (Or.inl rfl) | exact Or.inr (Or.inr rfl)) (hd : (y == ("__debug__" : Str)) = false := by decide)
    (hcd : (y == ("__classdict__" : Str)) = false := by decide) (hg : Gl X x := by rfl) (hdb : (x == ("__debug__" : Str)) = false := by decide) (he : starEach (.Name y p1 :: es) X.env = (false, eval (.Name y p1) X.env) :: starEach es X.env := by rfl) (hpl : (backTo cpos (starEach es X.env)).any (·.1) = false := by rfl) : DS X W (.Return (some (.Call (.Name x p) (.Name y p1 :: es) [] cpos)) pos) (sRetCallB j n mf l) := by
  subst hn
  obtain ⟨fa, fd, F, hm, hk, hb⟩ := C.ex
  refine pre_S (ps_ret (pe_callS F hr hg hm hk hb (fun σ => passAt tk σ) (pa_cons (pe_var hN hv hd hcd) ha he) hdb he hpl)) fun D σ H ⟨F0, H0, Fz, env, gr, rl, p⟩ => ?_
  have p := Post.bind p
  cases hbo : bigOf (sget env j) with
  | bad => rw [hbo] at p; exact p.elim
  | exc c => unfold bigOf at hbo; split at hbo <;> cases hbo
  | ok b =>
    rw [hbo] at p
    obtain ⟨a, hσ, _, _⟩ := rl.chB gr hbo (F' := Fz) (H' := H) (b' := b)
    refine ⟨_, hσ, H0, Fz, env, rl, (Post.bind p).mono (fun ss p1 ws F1 H1 g1 b1 => ?_) fun c k => excOn gr k⟩
    split at p1
    · rename_i hh
      obtain ⟨a', hσ', ba, kk⟩ := (rl.grow g1).chB (gr.on g1) hbo (F' := F1) (H' := H1) (b' := b)
      rw [hσ] at hσ'
      cases hσ'
      refine ⟨F1, a, b, ws, ss, rfl, g1.fh, ba, b1, hh.1, hh.2, (noexc_post (Post.bind p1)).mono (fun r p2 F' H' c ba' nf => ?_) fun c k => k⟩
      obtain ⟨k1, k2, k3⟩ := kk F' H' r.2 c ba' nf
      obtain ⟨r1, r2⟩ := r
      cases r1 with
      | ok d => exact fun v q => p2 v F' H' k1 q
      | error c => exact p2.elim
    · exact p1.elim
end
/-! ### a, b = C(..), C(..) -/
theorem Rl.remap {K : PySem.W.Frag} {mg : Mg} {H0 : G0} {env env2 : Ev} {σ σ2 : L2.St} {F H : Hp} (r : Rl K mg H0 env σ F H) (hl : env2.length = σ2.length) (ρ : Nat → Nat) (hρ : ∀ i j, i < env2.length → j < env2.length → ρ i = ρ j → i = j)
    (h : ∀ i s w, env2[i]? = some s → σ2[i]? = some w → s = .emp ∨ (env[ρ i]? = some s ∧ σ[ρ i]? = some w)) : Rl K mg H0 env2 σ2 F H := by
  refine ⟨r.fh, hl, fun i s w h1 h2 => ?_, fun i j s t w u x hij h1 h2 h3 h4 z z' => ?_⟩
  · rcases h i s w h1 h2 with rfl | ⟨k1, k2⟩
    · trivial
    · exact r.sl _ s w k1 k2
  · have bi : i < env2.length := (List.getElem?_eq_some_iff.mp h1).1
    have bj : j < env2.length := (List.getElem?_eq_some_iff.mp h2).1
    rcases h i s w h1 h3 with rfl | ⟨k1, k2⟩
    · exact z
    · rcases h j t u h2 h4 with rfl | ⟨k3, k4⟩
      · exact z'
      · exact r.ap (ρ i) (ρ j) s t w u x (fun e => hij (hρ i j bi bj e)) k1 k3 k2 k4 z z'
theorem make_core {K : PySem.W.Frag} {mg : Mg} {H0 : G0} {F0 F1 H1 : Hp} {env : Ev} {σ : L2.St} {c : Str} {C : Addr} {vs : List V} {ss : List Sl} {mf : Big → List Sl → R ResB} {n : Nat} {Q : VK} {E : XK} (i : Nat) (hC : mg c = some (.ref C)) (gr1 : Grow F0 H0 F1 H1) (rl1 : Rl K mg H0 env σ F1 H1) (b1 : SlA K mg F1 H1 vs ss) (hh : ss.length + 1 = n ∧ ss.all plain = true) {r2 : Big} (hm : mf (.ins c []) ss = .ok (.ok .none, r2))
    {o dx : Addr} (no : H1 o = none) (ndx : H1 dx = none) (hne : dx ≠ o) (k : ∀ F' H', Grow F0 H0 F' H' → Rl K mg H0 (env.set i (.big r2)) (σ.set i (some (.ref o))) F' H' → Q (.ref o) H') :
    spB K mg mf n (.ref o :: (vs ++ [])) (upd (upd H1 dx (.own o)) o (.ins C dx [])) (fun v H2 => v = .non ∧ Q (.ref o) H2) E := by
  rw [List.append_nil]
  have hs1 : ∀ z u, H1 z = some u → upd (upd H1 dx (.own o)) o (.ins C dx []) z = some u := fun z u e => by
    have h1 : z ≠ o := fun q => by rw [q, no] at e; cases e
    have h2 : z ≠ dx := fun q => by rw [q, ndx] at e; cases e
    rw [upd_ne h1, upd_ne h2]; exact e
  have hnn : ∀ z, upd (upd H1 dx (.own o)) o (.ins C dx []) z = none → H1 z = none := fun z e => by
    cases q : H1 z with
    | none => rfl
    | some u => rw [hs1 z u q] at e; cases e
  have hin : upd (upd H1 dx (.own o)) o (.ins C dx []) o = some (.ins C dx []) := upd_same
  have efp : fpOf (upd (upd H1 dx (.own o)) o (.ins C dx [])) o (.ins c []) = [o, dx] := fpOf_ins' hin
  have hfpn : ∀ z ∈ [o, dx], H1 z = none := fun z hz => by
    rcases List.mem_cons.mp hz with rfl | hz
    · exact no
    · rw [List.mem_singleton.mp hz]; exact ndx
  refine ⟨F1, o, .ins c [], vs, ss, rfl, fun z u e => hs1 z u (rl1.fh z u e), ⟨⟨C, dx, [], hC, hin, by rw [upd_ne hne, upd_same], rfl, fun q hq => by cases hq⟩, by rw [efp]; simp [Ne.symm hne], fun z hz => ?_⟩, b1.grow ⟨Same.refl _, hs1, fun z u e => hs1 z u (rl1.fh z u e), fun _ _ e => .inl e⟩, hh.1, hh.2, ?_⟩
  · rw [efp] at hz
    refine ⟨rl1.fh.free (hfpn z hz), ?_⟩
    rcases List.mem_cons.mp hz with rfl | hz
    · exact ⟨_, hin, fun _ _ z => by cases z⟩
    · rw [List.mem_singleton.mp hz]; exact ⟨.own o, by rw [upd_ne hne, upd_same], fun _ _ z => by cases z⟩
  · rw [hm]
    intro F' H' ch ba' nf v q
    cases q
    refine ⟨rfl, ?_⟩
    rw [efp] at ch nf
    have hk : ∀ z u, H1 z = some u → H' z = some u := fun z u e => ch.k z u (hs1 z u e) fun hz => by rw [hfpn z hz] at e; cases e
    have hnew : ∀ z ∈ fpOf H' o r2, H1 z = none := fun z hz => by
      rcases nf z hz with y | y
      · exact hfpn z y
      · exact hnn z y
    refine k F' H' ⟨gr1.f.trans ch.f, fun z u e => hk z u (gr1.h z u e), ch.fh, fun z u e => ?_⟩ (rl1.put i ch.f ch.fh (fun z u e _ => hk z u e) (fun j t u z _ h1 h2 hz => ?_) ⟨o, rfl, ba'.1, ba'.2.1, fun z hz => ⟨gr1.h.free (hnew z hz), ba'.2.2 z hz⟩⟩ fun j t u z _ h1 h2 hz hz' => ?_)
    · rcases ch.nw z u e with y | y | y
      · exact gr1.nw z u y
      · exact .inr (gr1.h.free (hnn z y))
      · exact .inr (gr1.h.free (hfpn z y))
    · obtain ⟨_, f, u2, hu, _⟩ := (rl1.sl j t u h1 h2).part hz
      cases e : F' z with
      | none => rfl
      | some u3 =>
        rcases ch.nw z u3 e with y | y | y
        · rw [f] at y; cases y
        · rw [hnn z y] at hu; cases hu
        · rw [hfpn z y] at hu; cases hu
    · exact rl1.apart h1 h2 hz (hnew z hz')
def made (c : Str) (n : Nat) (mf : Big → List Sl → R ResB) (ss : List Sl) : R Big := if ss.length + 1 = n ∧ ss.all plain = true then (match mf (.ins c []) ss with
    | .ok (.ok .none, b) => .ok b
    | _ => .bad)
  else .bad
theorem made_run {c : Str} {n : Nat} {mf : Big → List Sl → R ResB} {ss : List Sl} {α : Type} {r : Big → R α} {k : α → Prop} {E : Str → Prop} (p : Post ((made c n mf ss).bind r) k E) : ∃ b, (ss.length + 1 = n ∧ ss.all plain = true) ∧ mf (.ins c []) ss = .ok (.ok .none, b) ∧ Post (r b) k E := by
  unfold made at p
  split at p
  · rename_i hh
    split at p
    · rename_i b e; exact ⟨b, hh, e, p⟩
    · exact p.elim
  · exact p.elim
def sMake2 (i j : Nat) (c : Str) (n : Nat) (mf : Big → List Sl → R ResB) (l1 l2 : Ev → R (List Sl)) : Ev → R Out := fun env => (l1 env).bind fun s1 => (made c n mf s1).bind fun b1 => (l2 env).bind fun s2 => (made c n mf s2).bind fun b2 => if i < env.length ∧ j < env.length ∧ i ≠ j then .ok (.nx ((env.set i (.big b1)).set j (.big b2))) else .bad
theorem Rl.ext2 {K : PySem.W.Frag} {mg : Mg} {H0 : G0} {env : Ev} {σ : L2.St} {F H : Hp} (r : Rl K mg H0 env σ F H) : Rl K mg H0 (env ++ [.emp, .emp]) (σ ++ [none, none]) F H := r.remap (by simp [r.len]) id (fun _ _ _ _ e => e) fun i s w h1 h2 => by
  by_cases hi : i < env.length
  · rw [List.getElem?_append_left hi] at h1
    rw [List.getElem?_append_left (by rw [← r.len]; exact hi)] at h2
    exact .inr ⟨h1, h2⟩
  · rw [List.getElem?_append_right (by omega)] at h1
    have : s = .emp := by
      have := List.mem_of_getElem? h1
      simpa using this
    exact .inl this
theorem Rl.pre {K : PySem.W.Frag} {mg : Mg} {H0 : G0} {env rest : Ev} {σ rs : L2.St} {F H : Hp} (r : Rl K mg H0 (env ++ rest) (σ ++ rs) F H) (hl : env.length = σ.length) : Rl K mg H0 env σ F H := r.remap hl id (fun _ _ _ _ e => e) fun i s w h1 h2 => .inr ⟨by
    rw [id, List.getElem?_append_left (List.getElem?_eq_some_iff.mp h1).1]; exact h1, by
    rw [id, List.getElem?_append_left (List.getElem?_eq_some_iff.mp h2).1]; exact h2⟩
theorem Rl.move2 {K : PySem.W.Frag} {mg : Mg} {H0 : G0} {env : Ev} {σ : L2.St} {F H : Hp} {s1 s2 : Sl} {w1 w2 : Option V} {i j : Nat} (r : Rl K mg H0 (env ++ [s1, s2]) (σ ++ [w1, w2]) F H) (hl : env.length = σ.length) (hi : i < env.length) (hj : j < env.length) (hij : i ≠ j) : Rl K mg H0 ((env.set i s1).set j s2) ((σ.set i w1).set j w2) F H := by
  refine r.remap (by simp [hl]) (fun k => if k = j then env.length + 1 else if k = i then env.length else k) (fun a b ha hb e => ?_) fun k s w h1 h2 => .inr ?_
  · simp only [List.length_set] at ha hb
    have e : (if a = j then env.length + 1 else if a = i then env.length else a) = (if b = j then env.length + 1 else if b = i then env.length else b) := e
    split at e <;> split at e <;> (try split at e) <;> (try split at e) <;> omega
  · have hk : k < env.length := by have := (List.getElem?_eq_some_iff.mp h1).1; simpa using this
    show (env ++ [s1, s2])[if k = j then env.length + 1 else if k = i then env.length else k]? = some s ∧ (σ ++ [w1, w2])[if k = j then env.length + 1 else if k = i then env.length else k]? = some w
    by_cases e1 : k = j
    · subst e1
      rw [if_pos rfl]
      rw [List.getElem?_set_self (by simpa using hk)] at h1
      rw [List.getElem?_set_self (by simp; omega)] at h2
      exact ⟨by rw [List.getElem?_append_right (by omega)]; simpa using h1, by rw [List.getElem?_append_right (by omega), hl]; simpa using h2⟩
    · rw [if_neg e1]
      rw [List.getElem?_set_ne (fun z => e1 z.symm)] at h1 h2
      by_cases e2 : k = i
      · subst e2
        rw [if_pos rfl]
        rw [List.getElem?_set_self hk] at h1
        rw [List.getElem?_set_self (by omega)] at h2
        exact ⟨by rw [List.getElem?_append_right (by omega)]; simpa using h1, by rw [List.getElem?_append_right (by omega), hl]; simpa using h2⟩
      · rw [if_neg e2]
        rw [List.getElem?_set_ne (fun z => e2 z.symm)] at h1 h2
        exact ⟨by rw [List.getElem?_append_left hk]; exact h1, by rw [List.getElem?_append_left (by omega)]; exact h2⟩
section
variable {X : Cx} {W : WX} {e e2 : Expr} {es es2 : List Expr} {l1 l2 : Ev → R (List Sl)} {pos p p1 p2 cpos cpos2 px py pt pt2 : Pos} {x y c : Str} {k n : Nat} {ps : List Str}
theorem ds_make2 {kt k2} {mf : Big → List Sl → R ResB} (i j : Nat) (M : CalI X.prog X.w X.K X.mg X.base k c ps mf) (hr : Room (k + 1) X.A) (tk : Takes X W) (hNd : X.N.Nodup) (hc : X.calm = true) (h1 : DA X W (e :: es) l1) (h2 : DA X W (e2 :: es2) l2) (hn : ps.length = n := by rfl) (hi : X.N[i]? = some x := by rfl) (hj : X.N[j]? = some y := by rfl) (hij : i ≠ j := by decide)
    (hx : X.env.scope.names.lookup x = some .local := by rfl) (hy : X.env.scope.names.lookup y = some .local := by rfl) (hg : Gl X c := by rfl) (hdb : (c == ("__debug__" : Str)) = false := by decide)
    (he : starEach (e :: es) X.env = (false, eval e X.env) :: starEach es X.env := by rfl) (hpl : (backTo cpos (starEach es X.env)).any (·.1) = false := by rfl) (he2 : starEach (e2 :: es2) X.env = (false, eval e2 X.env) :: starEach es2 X.env := by rfl) (hpl2 : (backTo cpos2 (starEach es2 X.env)).any (·.1) = false := by rfl)
    (hst : starEach (.Call (.Name c p) (e :: es) [] cpos :: [.Call (.Name c p2) (e2 :: es2) [] cpos2]) X.env = (false, eval (.Call (.Name c p) (e :: es) [] cpos) X.env) :: starEach [.Call (.Name c p2) (e2 :: es2) [] cpos2] X.env := by rfl)
    (hst2 : starEach (.Call (.Name c p2) (e2 :: es2) [] cpos2 :: []) X.env = (false, eval (.Call (.Name c p2) (e2 :: es2) [] cpos2) X.env) :: starEach [] X.env := by rfl)
    (hw : swappedStores [.Tuple [.Name x px, .Name y py] kt pt] (.Tuple [.Call (.Name c p) (e :: es) [] cpos, .Call (.Name c p2) (e2 :: es2) [] cpos2] k2 pt2) X.env = pure (some [x, y]) := by rfl)
    (hs : swapsWithSole [.Tuple [.Name x px, .Name y py] kt pt] (.Tuple [.Call (.Name c p) (e :: es) [] cpos, .Call (.Name c p2) (e2 :: es2) [] cpos2] k2 pt2) pos.line X.env = pure false := by rfl) :
    DS X W (.Assign [.Tuple [.Name x px, .Name y py] kt pt] (.Tuple [.Call (.Name c p) (e :: es) [] cpos, .Call (.Name c p2) (e2 :: es2) [] cpos2] k2 pt2) pos) (sMake2 i j c n mf l1 l2) := by
  subst hn
  obtain ⟨C, fa, fd, F, hC, mk, hb⟩ := M.ex
  have hp : Passes (L2.CX X.prog X.w) X (fun cls d H => ∀ σ, W cls d σ H) := fun pins σ H s e s' I c => tk e s' (XE.of_call I (fun _ _ _ h => h σ) c)
  refine pre_S (ps_par hc hNd hi hj hij hx hy (pa_cons (pe_make mk F hr hg hC hb .nil hp h1 hdb he hpl) (pa_cons (pe_make mk F hr hg hC hb .nil hp h2 hdb he2 hpl2) pa_nil hst2) hst) hw hs) fun D σ H ⟨F0, H0, Fz, env, gr, rl, pp⟩ => ?_
  refine ⟨H0, Fz, env, rl, (Post.bind pp).mono (fun ss p1 vs F1 H1 g1 b1 => ?_) fun c k => excOn gr k⟩
  obtain ⟨r1, hh, hm, p1⟩ := made_run p1
  intro o dx no ndx hne
  have rle := (rl.grow g1).ext2
  refine make_core (Q := fun x H1 => tCons (tMake C (spB X.K X.mg mf ps.length) [] (fun cls d H => ∀ σ, W cls d σ H) (tDA X.K X.mg W l2)) tNil σ H1 fun xs H2 => ∃ v w, x :: xs = [v, w] ∧ D.nx ((σ.set i (some v)).set j (some w)) H2) (E := fun cls d H => ∀ σ, W cls d σ H) env.length hC (gr.on g1) rle b1 hh hm no ndx hne fun F2 H2 g2 rl2 => ?_
  have e1 : (env ++ [Sl.emp, .emp]).set env.length (.big r1) = env ++ [.big r1, .emp] := by rw [List.set_append_right _ _ (Nat.le_refl _), Nat.sub_self]; rfl
  have e2' : (σ ++ [none, none]).set env.length (some (.ref o)) = σ ++ [some (.ref o), none] := by rw [List.set_append_right _ _ (by rw [rl.len]; exact Nat.le_refl _), rl.len, Nat.sub_self]; rfl
  rw [e1, e2'] at rl2
  refine ⟨H0, F2, env, rl2.pre rl.len, (Post.bind p1).mono (fun ss2 p3 vs2 F3 H3 g3 b3 => ?_) fun c k => excOn g2 k⟩
  obtain ⟨r2, hh2, hm2, p3⟩ := made_run p3
  intro o2 dx2 no2 ndx2 hne2
  refine make_core (Q := fun x' H2 => tNil σ H2 fun xs H3 => ∃ v w, V.ref o :: (x' :: xs) = [v, w] ∧ D.nx ((σ.set i (some v)).set j (some w)) H3) (E := fun cls d H => ∀ σ, W cls d σ H) (env.length + 1) hC (g2.on g3) (rl2.grow g3) b3 hh2 hm2 no2 ndx2 hne2 fun F4 H4 g4 rl4 => ?_
  have e3 : (env ++ [Sl.big r1, .emp]).set (env.length + 1) (.big r2) = env ++ [.big r1, .big r2] := by rw [List.set_append_right _ _ (Nat.le_succ _)]; simp
  have e4 : (σ ++ [some (V.ref o), none]).set (env.length + 1) (some (.ref o2)) = σ ++ [some (.ref o), some (.ref o2)] := by rw [List.set_append_right _ _ (by rw [rl.len]; exact Nat.le_succ _), rl.len]; simp
  rw [e3, e4] at rl4
  split at p3
  · rename_i hb2
    exact ⟨_, _, rfl, p3 _ F4 H4 g4 (rl4.move2 rl.len hb2.1 hb2.2.1 hb2.2.2)⟩
  · exact p3.elim
end
end L3

namespace LB
open PySem PySem.Spec PyProof.Rows L2 L3
def b_is_text : Ev → R Out := (sSeq (sIf (dOr (dNot (dTr (d1 (isTD "str") (dVar 0)))) (dOr (dNot (dTest (dChain leD leD (dC (.int 1)) (d1 lenD (dVar 0)) (dC (.int 60))))) (dNot (dTr (d1 allD (dLcx (iItems1 (dVar 0)) (gN 1) tTrue (dChain leD leD (dC (.str " ")) (dVar 1) (dC (.str "~"))) [1])))))) (sRet (dC (.bool false))) sNil)
  (sRet (dAndV (d2 eqD (dVar 0) (dSm1 stripD (dVar 0) (dC (.str " ")))) (d2 notInD (dC (.str "  ")) (dVar 0)))))
def m_is_text : List Sl → R PyData := den 2 b_is_text
def b_is_chapter : Ev → R Out := (sSeq (sIf (dOr (dNot (dTr (d1 (isTD "tuple") (dVar 0)))) (dOr (dTest (d2 neD (d1 lenD (dVar 0)) (dC (.int 2)))) (dOr (dNot (dTr (dCall 1 m_is_text (aCons (d2 ixD (dVar 0) (dC (.int 0))) aNil)))) (dNot (dTr (d1 (isTD "tuple") (d2 ixD (dVar 0) (dC (.int 1))))))))) (sRet (dC (.bool false))) sNil)
  (sRet (dAndV (dChain leD leD (dC (.int 1)) (d1 lenD (d2 ixD (dVar 0) (dC (.int 1)))) (dC (.int 4))) (d1 allD (dLcx (iItems1 (d2 ixD (dVar 0) (dC (.int 1)))) (gN 1) tTrue (dCall 1 m_is_text (aCons (dVar 1) aNil)) [1])))))
def m_is_chapter : List Sl → R PyData := den 2 b_is_chapter
def b_is_book : Ev → R Out := (sRet (dAndV (d1 (isTD "tuple") (dVar 0)) (dAndV (dChain leD leD (dC (.int 1)) (d1 lenD (dVar 0)) (dC (.int 3))) (d1 allD (dLcx (iItems1 (dVar 0)) (gN 1) tTrue (dCall 1 m_is_chapter (aCons (dVar 1) aNil)) [1])))))
def m_is_book : List Sl → R PyData := den 2 b_is_book
def b_law_cell : Ev → R Out := (sSeq (sIf (dTest (d2 ltD (dVar 1) (dScrLen 0))) (sRet (dScrIx 0 (dVar 1))) sNil)
  (sRet (dC (.int 0))))
def m_law_cell : List Sl → R PyData := den 2 b_law_cell
def b_law_mix : Ev → R Out := (sSeq (sAsg (d2 modD (d2 mulD (dVar 0) (dC (.int 48271))) (dVar 1)) (gN 3))
  (sRet (d2 modD (d2 modD (d2 mulD (dVar 3) (d2 addD (dVar 3) (dC (.int 7)))) (dVar 1)) (dVar 2))))
def m_law_mix : List Sl → R PyData := den 4 b_law_mix
def b_law_same (REC : List Sl → R PyData) : Ev → R Out := (sSeq (sIf (dTr (d1 (isTD "tuple") (dVar 1))) (sSeq (sIf (dOr (dNot (dTr (d1 (isTD "tuple") (dVar 0)))) (dTest (d2 neD (d1 lenD (dVar 0)) (d1 lenD (dVar 1))))) (sRet (dC (.bool false))) sNil)
  (sRet (d1 allD (dLcx (iZipD (dVar 0) (dVar 1)) (gT 2 (gsC (gN 2) (gsC (gN 3) gsN))) tTrue (dCall 2 REC (aCons (dVar 2) (aCons (dVar 3) aNil))) [2, 3])))) sNil)
  (sSeq (sIf (dTest (d2 isD (dVar 1) (dC .none))) (sRet (d2 isD (dVar 0) (dC .none))) sNil)
  (sSeq (sIf (dOr (dTr (d1 (isTD "bool") (dVar 1))) (dTr (d1 (isTD "bool") (dVar 0)))) (sRet (dAndV (d1 (isTD "bool") (dVar 1)) (dAndV (d1 (isTD "bool") (dVar 0)) (d2 eqD (dVar 0) (dVar 1))))) sNil)
  (sRet (dAndV (d1 (isTD2 "int" "str") (dVar 0)) (d2 eqD (dVar 0) (dVar 1)))))))
def m_law_same : Nat → List Sl → R PyData
  | 0 => badM
  | k + 1 => den 4 (b_law_same (m_law_same k))
def b_law_text : Ev → R Out := (sSeq (sAsg (dC (.str "abcdefgh.,!?-\"'09(~")) (gN 1))
  (sSeq (sAsg (d2 addD (dC (.int 1)) (dCall 3 m_law_mix (aCons (dVar 0) (aCons (dC (.int 9973)) (aCons (dC (.int 60)) aNil))))) (gN 2))
  (sSeq (sIf (dTest (d2 eqD (dCall 3 m_law_mix (aCons (dVar 0) (aCons (dC (.int 9967)) (aCons (dC (.int 5)) aNil)))) (dC (.int 0)))) (sAsg (d2 ixD (dTup (lCons (dC (.int 1)) (lCons (dC (.int 2)) (lCons (dC (.int 59)) (lCons (dC (.int 60)) lNil))))) (dCall 3 m_law_mix (aCons (dVar 0) (aCons (dC (.int 9949)) (aCons (dC (.int 4)) aNil))))) (gN 2)) sNil)
  (sSeq (sAsg (dC (.str "")) (gN 3))
  (sSeq (sAsg (dC (.int 0)) (gN 4))
  (sSeq (sWhile 1000 (dTest (d2 ltD (d1 lenD (dVar 3)) (dVar 2))) (sSeq (sAsg (d2 addD (dVar 4) (dC (.int 1))) (gN 4))
  (sSeq (sAsg (d2 addD (dC (.int 1)) (dCall 3 m_law_mix (aCons (d2 addD (dVar 0) (d2 mulD (dC (.int 7)) (dVar 4))) (aCons (dC (.int 9941)) (aCons (d2 ixD (dTup (lCons (dC (.int 4)) (lCons (dC (.int 9)) (lCons (dC (.int 25)) lNil)))) (dCall 3 m_law_mix (aCons (dVar 0) (aCons (dC (.int 9931)) (aCons (dC (.int 3)) aNil))))) aNil))))) (gN 5))
  (sSeq (sAsg (dSm1 joinD (dC (.str "")) (dLcx (iRange1 (dVar 5)) (gN 7) tTrue (d2 ixD (dVar 1) (dCall 3 m_law_mix (aCons (d2 addD (d2 addD (dVar 0) (d2 mulD (dC (.int 11)) (dVar 4))) (d2 mulD (dC (.int 3)) (dVar 7))) (aCons (dC (.int 9929)) (aCons (d1 lenD (dVar 1)) aNil))))) [7])) (gN 6))
  (sAsg (d2 addD (d2 addD (dVar 3) (d2 mulD (dC (.str " ")) (d1 intD (d2 neD (dVar 3) (dC (.str "")))))) (dVar 6)) (gN 3))))))
  (sRet (dSm1 stripD (dSlice (dVar 3) oNone (oSome (dVar 2))) (dC (.str " "))))))))))
def m_law_text : List Sl → R PyData := den 8 b_law_text
def b_law_book : Ev → R Out := (sSeq (sOwnL 1 lNil)
  (sSeq (sFor (iRange1 (d2 addD (dC (.int 1)) (dCall 3 m_law_mix (aCons (dVar 0) (aCons (dC (.int 9923)) (aCons (dC (.int 3)) aNil)))))) (gN 2)
  (sSeq (sAsg (d2 addD (dVar 0) (d2 mulD (dC (.int 31)) (dVar 2))) (gN 3))
  (sSeq (sAsg (dLcx (iRange1 (d2 addD (dC (.int 1)) (dCall 3 m_law_mix (aCons (dVar 3) (aCons (dC (.int 9907)) (aCons (dC (.int 4)) aNil)))))) (gN 5) tTrue (dCall 1 m_law_text (aCons (d2 addD (d2 addD (dVar 3) (d2 mulD (dC (.int 13)) (dVar 5))) (dC (.int 1))) aNil)) [5]) (gN 4))
  (sAppend 1 (dTup (lCons (dSm1 stripD (dSlice (dCall 1 m_law_text (aCons (d2 addD (dVar 3) (dC (.int 5))) aNil)) oNone (oSome (dC (.int 12)))) (dC (.str " "))) (lCons (d1 tupleD (dVar 4)) lNil)))))))
  (sRet (d1 tupleD (dOwn 1)))))
def m_law_book : List Sl → R PyData := den 6 b_law_book
def b_law_is_text : Ev → R Out := (sSeq (sIf (dOr (dNot (dTr (d1 (isTD "str") (dVar 0)))) (dNot (dTest (dChain ltD ltD (dC (.int 0)) (d1 lenD (dVar 0)) (dC (.int 61)))))) (sRet (dC (.bool false))) sNil)
  (sSeq (sIf (dOr (dTest (d2 eqD (d2 ixD (dVar 0) (dC (.int 0))) (dC (.str " ")))) (dOr (dTest (d2 eqD (d2 ixD (dVar 0) (d1 negD (dC (.int 1)))) (dC (.str " ")))) (dTest (d2 inD (dC (.str "  ")) (dVar 0))))) (sRet (dC (.bool false))) sNil)
  (sRet (d2 eqD (dLcx (iItems1 (dVar 0)) (gN 1) (dNot (dTest (dChain leD leD (dC (.str " ")) (dVar 1) (dC (.str "~"))))) (dVar 1) [1]) (dLst lNil)))))
def m_law_is_text : List Sl → R PyData := den 2 b_law_is_text
def b_law_is_book : Ev → R Out := (sSeq (sIf (dOr (dNot (dTr (d1 (isTD "tuple") (dVar 0)))) (dNot (dTest (dChain ltD ltD (dC (.int 0)) (d1 lenD (dVar 0)) (dC (.int 4)))))) (sRet (dC (.bool false))) sNil)
  (sSeq (sFor (iItems1 (dVar 0)) (gN 1)
  (sSeq (sIf (dOr (dNot (dTr (d1 (isTD "tuple") (dVar 1)))) (dOr (dTest (d2 neD (d1 lenD (dVar 1)) (dC (.int 2)))) (dNot (dTr (d1 (isTD "tuple") (d2 ixD (dVar 1) (dC (.int 1)))))))) (sRet (dC (.bool false))) sNil)
  (sSeq (sIf (dOr (dNot (dTr (dCall 1 m_law_is_text (aCons (d2 ixD (dVar 1) (dC (.int 0))) aNil)))) (dNot (dTest (dChain ltD ltD (dC (.int 0)) (d1 lenD (d2 ixD (dVar 1) (dC (.int 1)))) (dC (.int 5)))))) (sRet (dC (.bool false))) sNil)
  (sIf (dTest (d2 neD (dLcx (iItems1 (d2 ixD (dVar 1) (dC (.int 1)))) (gN 2) (dNot (dTr (dCall 1 m_law_is_text (aCons (dVar 2) aNil)))) (dVar 2) [2]) (dLst lNil))) (sRet (dC (.bool false))) sNil))))
  (sRet (dC (.bool true)))))
def m_law_is_book : List Sl → R PyData := den 3 b_law_is_book
def b_is_number : Ev → R Out := (sRet (dAndV (d1 (isTD "int") (dVar 0)) (dAndV (dNotV (d1 (isTD "bool") (dVar 0))) (dChain leD ltD (dC (.int 0)) (dVar 0) (dVar 1)))))
def m_is_number : List Sl → R PyData := den 2 b_is_number
def b_is_place : Ev → R Out := (sSeq (sIf (dOr (dNot (dTr (d1 (isTD "tuple") (dVar 1)))) (dOr (dTest (d2 neD (d1 lenD (dVar 1)) (dC (.int 3)))) (dNot (dTr (dCall 2 m_is_number (aCons (d2 ixD (dVar 1) (dC (.int 0))) (aCons (d1 lenD (dVar 0)) aNil))))))) (sRet (dC (.bool false))) sNil)
  (sSeq (sAsg (d2 ixD (d2 ixD (dVar 0) (d2 ixD (dVar 1) (dC (.int 0)))) (dC (.int 1))) (gN 2))
  (sRet (dAndV (dCall 2 m_is_number (aCons (d2 ixD (dVar 1) (dC (.int 1))) (aCons (d1 lenD (dVar 2)) aNil))) (dCall 2 m_is_number (aCons (d2 ixD (dVar 1) (dC (.int 2))) (aCons (d1 lenD (d2 ixD (dVar 2) (d2 ixD (dVar 1) (dC (.int 1))))) aNil)))))))
def m_is_place : List Sl → R PyData := den 3 b_is_place
def b_sizes : Ev → R Out := (sSeq (sOwnL 1 lNil)
  (sSeq (sFor (iEnumD (dVar 0)) (gT 2 (gsC (gN 2) (gsC (gT 2 (gsC (gN 3) (gsC (gN 4) gsN))) gsN)))
  (sExtend 1 (dLcx (iEnumD (dVar 4)) (gT 2 (gsC (gN 5) (gsC (gN 6) gsN))) tTrue (dTup (lCons (dVar 2) (lCons (dVar 5) (lCons (d1 lenD (dVar 6)) lNil)))) [5, 6])))
  (sRetOwn 1)))
def m_sizes : List Sl → R PyData := den 7 b_sizes
def b_count_signs : Ev → R Out := (sRet (d1 sumD (dLcx (iItems1 (dCall 1 m_sizes (aCons (dVar 0) aNil))) (gT 3 (gsC (gN 1) (gsC (gN 2) (gsC (gN 3) gsN)))) tTrue (dVar 3) [1, 2, 3])))
def m_count_signs : List Sl → R PyData := den 4 b_count_signs
def b_number_of : Ev → R Out := (sRet (d2 addD (d1 sumD (dLcx (iItems1 (dCall 1 m_sizes (aCons (dVar 0) aNil))) (gT 3 (gsC (gN 2) (gsC (gN 3) (gsC (gN 4) gsN)))) (dTest (d2 ltD (dTup (lCons (dVar 2) (lCons (dVar 3) lNil))) (dSlice (dVar 1) oNone (oSome (dC (.int 2)))))) (dVar 4) [2, 3, 4])) (d2 ixD (dVar 1) (dC (.int 2)))))
def m_number_of : List Sl → R PyData := den 5 b_number_of
def b_nth : Ev → R Out := (sSeq (sFor (iItems1 (dCall 1 m_sizes (aCons (dVar 0) aNil))) (gT 3 (gsC (gN 2) (gsC (gN 3) (gsC (gN 4) gsN))))
  (sSeq (sIf (dTest (dChain leD ltD (dC (.int 0)) (dVar 1) (dVar 4))) (sRet (dTup (lCons (dVar 2) (lCons (dVar 3) (lCons (dVar 1) lNil))))) sNil)
  (sAsg (d2 subD (dVar 1) (dVar 4)) (gN 1))))
  (sRaise "NoPlace"))
def m_nth : List Sl → R PyData := den 5 b_nth
def b_law_places : Ev → R Out := (sSeq (sOwnL 1 lNil)
  (sSeq (sFor (iEnumD (dVar 0)) (gT 2 (gsC (gN 2) (gsC (gT 2 (gsC (gN 3) (gsC (gN 4) gsN))) gsN)))
  (sFor (iEnumD (dVar 4)) (gT 2 (gsC (gN 5) (gsC (gN 6) gsN)))
  (sExtend 1 (dLcx (iRange1 (d1 lenD (dVar 6))) (gN 7) tTrue (dTup (lCons (dVar 2) (lCons (dVar 5) (lCons (dVar 7) lNil)))) [7]))))
  (sRetOwn 1)))
def m_law_places : List Sl → R PyData := den 8 b_law_places
def b_law_word : Ev → R Out := (sSeq (sAsg (dLst (lCons (dIsE 0 "NoPlace") (lCons (dIsE 0 "NoPage") lNil))) (gN 1))
  (sSeq (sAsg (d2 addD (dVar 1) (dLst (lCons (dIsE 0 "NoJump") (lCons (dIsE 0 "BadEdition") lNil)))) (gN 1))
  (sSeq (sIf (dOr (dTest (d2 neD (dLm1 countD (dVar 1) (dC (.bool true))) (dC (.int 1)))) (dNot (dTr (dIsVE 0)))) (sRet (dC (.str "wrong"))) sNil)
  (sRet (d2 ixD (dTup (lCons (dC (.str "no place")) (lCons (dC (.str "no page")) (lCons (dC (.str "no jump")) (lCons (dC (.str "bad edition")) lNil))))) (dLm1 indexD (dVar 1) (dC (.bool true))))))))
def m_law_word : List Sl → R PyData := den 2 b_law_word
def b_line_end : Ev → R Out := (sSeq (sIf (dTest (d2 leD (d2 subD (d1 lenD (dVar 0)) (dVar 1)) (dVar 2))) (sRet (d1 lenD (dVar 0))) sNil)
  (sSeq (sAsg (dLcx (iRange2 (d2 addD (dVar 1) (dC (.int 1))) (d2 addD (d2 addD (dVar 1) (dVar 2)) (dC (.int 1)))) (gN 4) (dTest (d2 eqD (d2 ixD (dVar 0) (dVar 4)) (dC (.str " ")))) (dVar 4) [4]) (gN 3))
  (sSeq (sIf (dTr (dVar 3)) (sRet (d2 ixD (dVar 3) (d1 negD (dC (.int 1))))) sNil)
  (sRet (d2 addD (dVar 1) (dVar 2))))))
def m_line_end : List Sl → R PyData := den 5 b_line_end
def b_lines_of : Ev → R Out := (sSeq (sOwnL 2 lNil)
  (sSeq (sAsg (dC (.int 0)) (gN 3))
  (sSeq (sWhile 1000 (dTest (d2 ltD (dVar 3) (d1 lenD (dVar 0)))) (sSeq (sAsg (dCall 3 m_line_end (aCons (dVar 0) (aCons (dVar 3) (aCons (dVar 1) aNil)))) (gN 4))
  (sSeq (sAppend 2 (dTup (lCons (dVar 3) (lCons (dVar 4) lNil))))
  (sAsg (d2 addD (dVar 4) (d1 intD (d2 eqD (dSlice (dVar 0) (oSome (dVar 4)) (oSome (d2 addD (dVar 4) (dC (.int 1))))) (dC (.str " "))))) (gN 3)))))
  (sRet (d1 tupleD (dOwn 2))))))
def m_lines_of : List Sl → R PyData := den 5 b_lines_of
def b_line_at : Ev → R Out := (sRet (d2 subD (d1 lenD (dLcx (iItems1 (dCall 2 m_lines_of (aCons (dVar 0) (aCons (dVar 1) aNil)))) (gT 2 (gsC (gN 3) (gsC (gN 4) gsN))) (dTest (d2 leD (dVar 3) (dVar 2))) (dVar 3) [3, 4])) (dC (.int 1))))
def m_line_at : List Sl → R PyData := den 5 b_line_at
def b_law_lines : Ev → R Out := (sSeq (sOwnL 2 lNil)
  (sSeq (sAsg (dC (.int 0)) (gN 3))
  (sSeq (sWhile 1000 (dTest (d2 ltD (dVar 3) (d1 lenD (dVar 0)))) (sSeq (sAsg (dLcx (iRange2 (d2 addD (dVar 3) (dC (.int 1))) (d2 addD (d2 min2D (d2 addD (dVar 3) (dVar 1)) (d1 lenD (dVar 0))) (dC (.int 1)))) (gN 5) (dTest (d2 inD (dSlice (dVar 0) (oSome (dVar 5)) (oSome (d2 addD (dVar 5) (dC (.int 1))))) (dTup (lCons (dC (.str "")) (lCons (dC (.str " ")) lNil))))) (dVar 5) [5]) (gN 4))
  (sSeq (sAsg (d1 maxD1 (d2 addD (dVar 4) (d2 mulD (dLst (lCons (d2 min2D (d2 addD (dVar 3) (dVar 1)) (d1 lenD (dVar 0))) lNil)) (d1 intD (d2 eqD (dVar 4) (dLst lNil)))))) (gN 5))
  (sSeq (sAppend 2 (dTup (lCons (dVar 3) (lCons (dVar 5) lNil))))
  (sSeq (sAsg (dVar 5) (gN 3))
  (sIf (dTest (d2 eqD (dSlice (dVar 0) (oSome (dVar 5)) (oSome (d2 addD (dVar 5) (dC (.int 1))))) (dC (.str " ")))) (sAsg (d2 addD (dVar 5) (dC (.int 1))) (gN 3)) sNil))))))
  (sRetOwn 2))))
def m_law_lines : List Sl → R PyData := den 6 b_law_lines

def b_chapter_pages : Ev → R Out := (sSeq (sAsg (dVar 2) (gT 2 (gsC (gN 4) (gsC (gN 5) gsN))))
  (sSeq (sPgNew 3 (lCons (dTup (lCons (dC (.str "title")) (lCons (dVar 0) lNil))) (lCons (dTup (lCons (dC (.str "gap")) lNil)) lNil)))
  (sSeq (sFor (iEnumD (dVar 1)) (gT 2 (gsC (gN 6) (gsC (gN 7) gsN)))
  (sSeq (sIf (dAnd (dTest (d2 gtA (dVar 6) (dC (.int 0)))) (dTest (d2 ltD (dPgLen 3) (dVar 5)))) (sPgApp 3 (dTup (lCons (dC (.str "gap")) lNil))) sNil)
  (sSeq (sAsg (dLcx (iItems1 (dCall 2 m_lines_of (aCons (dVar 7) (aCons (dVar 4) aNil)))) (gT 2 (gsC (gN 10) (gsC (gN 11) gsN))) tTrue (dTup (lCons (dC (.str "text")) (lCons (dVar 0) (lCons (dVar 6) (lCons (dVar 10) (lCons (dVar 11) lNil)))))) [10, 11]) (gN 8))
  (sCallB 3 3 m_with_paragraph (aCons (dVar 8) (aCons (dVar 5) aNil)) (fun env _ => env)))))
  (sFreezeP 3 (sRet (dLcx (iItems1 (dVar 3)) (gN 9) tTrue (d1 tupleD (dVar 9)) [9]))))))
def m_chapter_pages : List Sl → R PyData := den 12 b_chapter_pages
def b_pages_of : Ev → R Out := (sSeq (sOwnL 2 lNil)
  (sSeq (sFor (iEnumD (dVar 0)) (gT 2 (gsC (gN 3) (gsC (gT 2 (gsC (gN 4) (gsC (gN 5) gsN))) gsN)))
  (sExtend 2 (dCall 3 m_chapter_pages (aCons (dVar 3) (aCons (dVar 5) (aCons (dVar 1) aNil))))))
  (sRet (d1 tupleD (dOwn 2)))))
def m_pages_of : List Sl → R PyData := den 6 b_pages_of
def b_law_size : Ev → R Out := (sRet (dTup (lCons (d2 addD (dC (.int 4)) (dCall 3 m_law_mix (aCons (dVar 0) (aCons (dC (.int 9901)) (aCons (dC (.int 17)) aNil))))) (lCons (d2 addD (dC (.int 4)) (dCall 3 m_law_mix (aCons (dVar 0) (aCons (dC (.int 9887)) (aCons (dC (.int 6)) aNil))))) lNil))))
def m_law_size : List Sl → R PyData := den 1 b_law_size
def b_law_pages : Ev → R Out := (sSeq (sAsg (dVar 1) (gT 2 (gsC (gN 3) (gsC (gN 4) gsN))))
  (sSeq (sPgNil 2)
  (sSeq (sFor (iEnumD (dVar 0)) (gT 2 (gsC (gN 5) (gsC (gT 2 (gsC (gN 6) (gsC (gN 7) gsN))) gsN)))
  (sSeq (sPgPush 2 (lCons (dTup (lCons (dC (.str "title")) (lCons (dVar 5) lNil))) (lCons (dTup (lCons (dC (.str "gap")) lNil)) lNil)))
  (sFor (iEnumD (dVar 7)) (gT 2 (gsC (gN 8) (gsC (gN 9) gsN)))
  (sSeq (sAsg (dLcx (iItems1 (dCall 2 m_law_lines (aCons (dVar 9) (aCons (dVar 3) aNil)))) (gN 13) tTrue (d2 addD (dTup (lCons (dC (.str "text")) (lCons (dVar 5) (lCons (dVar 8) lNil)))) (dVar 13)) [13]) (gN 10))
  (sSeq (sIf (dAnd (dTest (d2 gtA (dVar 8) (dC (.int 0)))) (dTest (d2 ltD (dPgLen 2) (dVar 4)))) (sPgApp 2 (dTup (lCons (dC (.str "gap")) lNil))) sNil)
  (sSeq (sIf (dTest (d2 ltD (d2 subD (dVar 4) (dPgLen 2)) (d2 addD (dC (.int 1)) (d1 intD (d2 gtA (d1 lenD (dVar 10)) (dC (.int 1))))))) (sPgPush 2 lNil) sNil)
  (sFor (iItems1 (dVar 10)) (gN 11)
  (sSeq (sIf (dTest (d2 eqD (dPgLen 2) (dVar 4))) (sPgPush 2 lNil) sNil)
  (sPgApp 2 (dVar 11))))))))))
  (sFreezeP 2 (sRet (d1 tupleD (dLcx (iItems1 (dVar 2)) (gN 12) tTrue (d1 tupleD (dVar 12)) [12])))))))
def m_law_pages : List Sl → R PyData := den 14 b_law_pages
def b_text_at : Ev → R Out := (sRet (d2 ixD (d2 ixD (d2 ixD (dVar 0) (d2 ixD (dVar 1) (dC (.int 0)))) (dC (.int 1))) (d2 ixD (dVar 1) (dC (.int 1)))))
def m_text_at : List Sl → R PyData := den 2 b_text_at
def b_page_at : Ev → R Out := (sSeq (sAsg (dVar 2) (gT 3 (gsC (gN 5) (gsC (gN 6) (gsC (gN 7) gsN)))))
  (sSeq (sAsg (dCall 2 m_text_at (aCons (dVar 0) (aCons (dVar 2) aNil))) (gN 3))
  (sSeq (sAsg (d2 ixD (dCall 2 m_lines_of (aCons (dVar 3) (aCons (d2 ixD (dVar 1) (dC (.int 0))) aNil))) (dCall 3 m_line_at (aCons (dVar 3) (aCons (d2 ixD (dVar 1) (dC (.int 0))) (aCons (dVar 7) aNil))))) (gT 2 (gsC (gN 8) (gsC (gN 9) gsN))))
  (sSeq (sAsg (dTup (lCons (dC (.str "text")) (lCons (dVar 5) (lCons (dVar 6) (lCons (dVar 8) (lCons (dVar 9) lNil)))))) (gN 4))
  (sRet (d2 ixD (dLcx (iEnumD (dCall 2 m_pages_of (aCons (dVar 0) (aCons (dVar 1) aNil)))) (gT 2 (gsC (gN 10) (gsC (gN 11) gsN))) (dTest (d2 inD (dVar 4) (dVar 11))) (dVar 10) [10, 11]) (dC (.int 0))))))))
def m_page_at : List Sl → R PyData := den 12 b_page_at
def b_place_on : Ev → R Out := (sSeq (sAsg (dCall 2 m_pages_of (aCons (dVar 0) (aCons (dVar 1) aNil))) (gN 3))
  (sSeq (sIf (dNot (dTest (dChain leD ltD (dC (.int 0)) (dVar 2) (d1 lenD (dVar 3))))) (sRaise "NoPage") sNil)
  (sRet (d2 ixD (dLcx (iItems1 (d2 ixD (dVar 3) (dVar 2))) (gN 4) (dTest (d2 eqD (d2 ixD (dVar 4) (dC (.int 0))) (dC (.str "text")))) (dSlice (dVar 4) (oSome (dC (.int 1))) (oSome (dC (.int 4)))) [4]) (dC (.int 0))))))
def m_place_on : List Sl → R PyData := den 5 b_place_on
def b_contents : Ev → R Out := (sSeq (sAsg (dCall 2 m_pages_of (aCons (dVar 0) (aCons (dVar 1) aNil))) (gN 2))
  (sSeq (sOwnL 3 lNil)
  (sSeq (sFor (iEnumD (dVar 0)) (gT 2 (gsC (gN 4) (gsC (gT 2 (gsC (gN 5) (gsC (gN 6) gsN))) gsN)))
  (sAppend 3 (dTup (lCons (dVar 5) (lCons (d2 ixD (dLcx (iEnumD (dVar 2)) (gT 2 (gsC (gN 7) (gsC (gN 8) gsN))) (dTest (d2 inD (dTup (lCons (dC (.str "title")) (lCons (dVar 4) lNil))) (dVar 8))) (dVar 7) [7, 8]) (dC (.int 0))) lNil)))))
  (sRet (d1 tupleD (dOwn 3))))))
def m_contents : List Sl → R PyData := den 9 b_contents
def b_law_page_of : Ev → R Out := (sSeq (sAsg (dC (.int 0)) (gN 2))
  (sSeq (sFor (iEnumD (dVar 0)) (gT 2 (gsC (gN 3) (gsC (gN 4) gsN)))
  (sIf (dTr (dLcx (iItems1 (dVar 4)) (gN 5) (dAnd (dTest (d2 eqD (d2 ixD (dVar 5) (dC (.int 0))) (dC (.str "text")))) (dAnd (dTest (d2 eqD (dSlice (dVar 5) (oSome (dC (.int 1))) (oSome (dC (.int 3)))) (dSlice (dVar 1) oNone (oSome (dC (.int 2)))))) (dTest (d2 leD (d2 ixD (dVar 5) (dC (.int 3))) (d2 ixD (dVar 1) (dC (.int 2))))))) (dVar 5) [5])) (sAsg (dVar 3) (gN 2)) sNil))
  (sRet (dVar 2))))
def m_law_page_of : List Sl → R PyData := den 6 b_law_page_of
def b_law_first : Ev → R Out := (sRet (d2 ixD (dLcx (iItems1 (d2 ixD (dVar 0) (dVar 1))) (gN 2) (dTest (d2 eqD (d2 ixD (dVar 2) (dC (.int 0))) (dC (.str "text")))) (dSlice (dVar 2) (oSome (dC (.int 1))) (oSome (dC (.int 4)))) [2]) (dC (.int 0))))
def m_law_first : List Sl → R PyData := den 3 b_law_first
def b_common : Ev → R Out := (sSeq (sWhile 1000 (dTest (d2 neD (dVar 1) (dC (.int 0)))) (sPar 0 1 (lCons (dVar 1) (lCons (d2 modD (dVar 0) (dVar 1)) lNil))))
  (sRet (dVar 0)))
def m_common : List Sl → R PyData := den 2 b_common
def b_Reader_init : Ev → R Out := (sSeq (sFldSet 0 "Reader" "book" (dVar 1))
  (sSeq (sFldSet 0 "Reader" "size" (dVar 2))
  (sSeq (sFldSet 0 "Reader" "here" (dTup (lCons (dC (.int 0)) (lCons (dC (.int 0)) (lCons (dC (.int 0)) lNil)))))
  (sSeq (sFldNil 0 "Reader" "past")
  (sFldNil 0 "Reader" "later")))))
def m_Reader_init : Big → List Sl → R ResB := denB 3 b_Reader_init
def b_Reader_place : Ev → R Out := (sRet (dFld 0 "Reader" "here"))
def m_Reader_place : List Sl → R PyData := den 1 b_Reader_place
def b_Reader_page : Ev → R Out := (sRet (dCall 3 m_page_at (aCons (dFld 0 "Reader" "book") (aCons (dFld 0 "Reader" "size") (aCons (dFld 0 "Reader" "here") aNil)))))
def m_Reader_page : List Sl → R PyData := den 1 b_Reader_page
def b_Reader_turn : Ev → R Out := (sSeq (sAsg (dMeth 0 "Reader" "page" 1 m_Reader_page aNil) (gN 2))
  (sSeq (sAsg (d2 subD (d1 lenD (dCall 2 m_pages_of (aCons (dFld 0 "Reader" "book") (aCons (dFld 0 "Reader" "size") aNil)))) (dC (.int 1))) (gN 3))
  (sSeq (sAsg (d2 max2D (dC (.int 0)) (d2 min2D (dVar 3) (d2 addD (dVar 2) (dVar 1)))) (gN 4))
  (sIf (dTest (d2 neD (dVar 4) (dVar 2))) (sFldSet 0 "Reader" "here" (dCall 3 m_place_on (aCons (dFld 0 "Reader" "book") (aCons (dFld 0 "Reader" "size") (aCons (dVar 4) aNil))))) sNil))))
def m_Reader_turn : Big → List Sl → R ResB := denB 5 b_Reader_turn
def b_Reader_resized : Ev → R Out := (sFldSet 0 "Reader" "size" (dVar 1))
def m_Reader_resized : Big → List Sl → R ResB := denB 2 b_Reader_resized
def b_Reader_go : Ev → R Out := (sSeq (sIf (dNot (dTr (dCall 2 m_is_place (aCons (dFld 0 "Reader" "book") (aCons (dVar 1) aNil))))) (sRaiseB "NoPlace") sNil)
  (sSeq (sFldApp 0 "Reader" "past" (dFld 0 "Reader" "here"))
  (sSeq (sFldNil 0 "Reader" "later")
  (sFldSet 0 "Reader" "here" (dVar 1)))))
def m_Reader_go : Big → List Sl → R ResB := denB 2 b_Reader_go
def b_Reader_back : Ev → R Out := (sSeq (sIf (dNot (dFldTr 0 "Reader" "past")) (sRaiseB "NoJump") sNil)
  (sSeq (sFldApp 0 "Reader" "later" (dFld 0 "Reader" "here"))
  (sFldPop 0 "Reader" "here" "past")))
def m_Reader_back : Big → List Sl → R ResB := denB 1 b_Reader_back
def b_Reader_forth : Ev → R Out := (sSeq (sIf (dNot (dFldTr 0 "Reader" "later")) (sRaiseB "NoJump") sNil)
  (sSeq (sFldApp 0 "Reader" "past" (dFld 0 "Reader" "here"))
  (sFldPop 0 "Reader" "here" "later")))
def m_Reader_forth : Big → List Sl → R ResB := denB 1 b_Reader_forth
def b_Reader_part : Ev → R Out := (sSeq (sAsg (dCall 2 m_number_of (aCons (dFld 0 "Reader" "book") (aCons (dFld 0 "Reader" "here") aNil))) (gN 1))
  (sSeq (sAsg (dCall 1 m_count_signs (aCons (dFld 0 "Reader" "book") aNil)) (gN 2))
  (sSeq (sAsg (dCall 2 m_common (aCons (dVar 1) (aCons (dVar 2) aNil))) (gN 3))
  (sRet (dTup (lCons (d2 divD (dVar 1) (dVar 3)) (lCons (d2 divD (dVar 2) (dVar 3)) lNil)))))))
def m_Reader_part : List Sl → R PyData := den 4 b_Reader_part
def b_law_place : Ev → R Out := (sSeq (sAsg (dCall 3 m_law_mix (aCons (dVar 0) (aCons (dC (.int 9883)) (aCons (d1 lenD (dVar 1)) aNil)))) (gN 2))
  (sSeq (sAsg (dCall 3 m_law_mix (aCons (dVar 0) (aCons (dC (.int 9871)) (aCons (d1 lenD (d2 ixD (d2 ixD (dVar 1) (dVar 2)) (dC (.int 1)))) aNil)))) (gN 3))
  (sRet (dTup (lCons (dVar 2) (lCons (dVar 3) (lCons (dCall 3 m_law_mix (aCons (dVar 0) (aCons (dC (.int 9859)) (aCons (d1 lenD (d2 ixD (d2 ixD (d2 ixD (dVar 1) (dVar 2)) (dC (.int 1))) (dVar 3))) aNil)))) lNil)))))))
def m_law_place : List Sl → R PyData := den 4 b_law_place
def b_law_deed : Ev → R Out := (sSeq (sAsg (dCall 3 m_law_mix (aCons (dVar 0) (aCons (dC (.int 9817)) (aCons (dC (.int 9)) aNil)))) (gN 2))
  (sSeq (sIf (dTest (d2 ltD (dVar 2) (dC (.int 3)))) (sRet (dTup (lCons (dC (.str "turn")) (lCons (d2 ixD (dTup (lCons (dC (.int 1)) (lCons (d1 negD (dC (.int 1))) (lCons (dC (.int 2)) (lCons (d1 negD (dC (.int 2))) (lCons (dC (.int 0)) (lCons (dC (.int 99)) (lCons (d1 negD (dC (.int 99))) (lCons (dC (.int 3)) lNil))))))))) (dCall 3 m_law_mix (aCons (dVar 0) (aCons (dC (.int 9811)) (aCons (dC (.int 8)) aNil))))) lNil)))) sNil)
  (sSeq (sIf (dTest (d2 eqD (dVar 2) (dC (.int 3)))) (sRet (dTup (lCons (dC (.str "resized")) (lCons (dCall 1 m_law_size (aCons (d2 addD (dVar 0) (dC (.int 1))) aNil)) lNil)))) sNil)
  (sSeq (sIf (dTest (d2 ltD (dVar 2) (dC (.int 6)))) (sSeq (sAsg (dCall 2 m_law_place (aCons (d2 addD (dVar 0) (dC (.int 2))) (aCons (dVar 1) aNil))) (gN 3))
  (sRet (dTup (lCons (dC (.str "go")) (lCons (d2 ixD (dTup (lCons (dVar 3) (lCons (dVar 3) (lCons (dVar 3) (lCons (dTup (lCons (dC (.int 0)) (lCons (dC (.int 0)) (lCons (dC (.int 60)) lNil)))) (lCons (dTup (lCons (dC (.int 9)) (lCons (dC (.int 0)) (lCons (dC (.int 0)) lNil)))) lNil)))))) (dCall 3 m_law_mix (aCons (dVar 0) (aCons (dC (.int 9803)) (aCons (dC (.int 5)) aNil))))) lNil))))) sNil)
  (sRet (d2 ixD (dTup (lCons (dTup (lCons (dC (.str "back")) lNil)) (lCons (dTup (lCons (dC (.str "back")) lNil)) (lCons (dTup (lCons (dC (.str "forth")) lNil)) lNil)))) (d2 subD (dVar 2) (dC (.int 6)))))))))
def m_law_deed : List Sl → R PyData := den 4 b_law_deed
def b_law_is_part : Ev → R Out := (sSeq (sAsg (dVar 0) (gT 2 (gsC (gN 3) (gsC (gN 4) gsN))))
  (sSeq (sIf (dOr (dTest (d2 ltD (dVar 4) (dC (.int 1)))) (dTest (d2 neD (d2 mulD (dVar 3) (dVar 2)) (d2 mulD (dVar 1) (dVar 4))))) (sRet (dC (.bool false))) sNil)
  (sRet (dNotV (dLcx (iRange2 (dC (.int 2)) (d2 addD (dVar 4) (dC (.int 1)))) (gN 5) (dAnd (dTest (d2 eqD (d2 modD (dVar 3) (dVar 5)) (dC (.int 0)))) (dTest (d2 eqD (d2 modD (dVar 4) (dVar 5)) (dC (.int 0))))) (dVar 5) [5])))))
def m_law_is_part : List Sl → R PyData := den 6 b_law_is_part
def b_wall : Ev → R Out := (sWhile 1000 (dTr (dC (.bool true))) sNil)
def m_wall : List Sl → R PyData := den 1 b_wall
def b_all_found : Ev → R Out := (sSeq (sOwnL 2 lNil)
  (sSeq (sFor (iEnumD (dVar 0)) (gT 2 (gsC (gN 3) (gsC (gT 2 (gsC (gN 4) (gsC (gN 5) gsN))) gsN)))
  (sFor (iEnumD (dVar 5)) (gT 2 (gsC (gN 6) (gsC (gN 7) gsN)))
  (sExtend 2 (dLcx (iRange1 (d1 lenD (dVar 7))) (gN 8) (dTest (d2 eqD (dSlice (dVar 7) (oSome (dVar 8)) (oSome (d2 addD (dVar 8) (d1 lenD (dVar 1))))) (dVar 1))) (dTup (lCons (dVar 3) (lCons (dVar 6) (lCons (dVar 8) lNil)))) [8]))))
  (sRet (d1 tupleD (dOwn 2)))))
def m_all_found : List Sl → R PyData := den 9 b_all_found
def b_next_one : Ev → R Out := (sSeq (sAsg (dLcx (iItems1 (dCall 2 m_all_found (aCons (dVar 0) (aCons (dVar 1) aNil)))) (gN 4) (dTest (d2 gtA (dVar 4) (dVar 2))) (dVar 4) [4]) (gN 3))
  (sSeq (sIf (dNot (dTr (dVar 3))) (sRet (dC .none)) sNil)
  (sRet (d2 ixD (dVar 3) (dC (.int 0))))))
def m_next_one : List Sl → R PyData := den 5 b_next_one
def b_last_one : Ev → R Out := (sSeq (sAsg (dLcx (iItems1 (dCall 2 m_all_found (aCons (dVar 0) (aCons (dVar 1) aNil)))) (gN 4) (dTest (d2 ltD (dVar 4) (dVar 2))) (dVar 4) [4]) (gN 3))
  (sSeq (sIf (dNot (dTr (dVar 3))) (sRet (dC .none)) sNil)
  (sRet (d2 ixD (dVar 3) (d1 negD (dC (.int 1)))))))
def m_last_one : List Sl → R PyData := den 5 b_last_one
def b_around : Ev → R Out := (sRet (dSlice (dCall 2 m_text_at (aCons (dVar 0) (aCons (dVar 1) aNil))) (oSome (d2 max2D (dC (.int 0)) (d2 subD (d2 ixD (dVar 1) (dC (.int 2))) (dVar 2)))) (oSome (d2 addD (d2 addD (d2 ixD (dVar 1) (dC (.int 2))) (dVar 2)) (dC (.int 1))))))
def m_around : List Sl → R PyData := den 3 b_around
def b_spots_on : Ev → R Out := (sSeq (sAsg (dVar 1) (gT 3 (gsC (gN 3) (gsC (gN 4) (gsC (gN 5) gsN)))))
  (sSeq (sOwnL 2 lNil)
  (sSeq (sFor (iEnumD (dVar 0)) (gT 2 (gsC (gN 6) (gsC (gN 7) gsN)))
  (sIf (dAnd (dTest (d2 eqD (d2 ixD (dVar 7) (dC (.int 0))) (dC (.str "text")))) (dTest (d2 eqD (dSlice (dVar 7) (oSome (dC (.int 1))) (oSome (dC (.int 3)))) (dSlice (dVar 3) oNone (oSome (dC (.int 2))))))) (sSeq (sAsg (d2 max2D (d2 ixD (dVar 7) (dC (.int 3))) (d2 ixD (dVar 3) (dC (.int 2)))) (gN 8))
  (sSeq (sAsg (d2 min2D (d2 ixD (dVar 7) (dC (.int 4))) (d2 ixD (dVar 4) (dC (.int 2)))) (gN 9))
  (sIf (dTest (d2 ltD (dVar 8) (dVar 9))) (sAppend 2 (dTup (lCons (dVar 6) (lCons (d2 subD (dVar 8) (d2 ixD (dVar 7) (dC (.int 3)))) (lCons (d2 subD (dVar 9) (d2 ixD (dVar 7) (dC (.int 3)))) lNil))))) sNil))) sNil))
  (sRetOwn 2))))
def m_spots_on : List Sl → R PyData := den 10 b_spots_on
def b_spots : Ev → R Out := (sSeq (sOwnL 3 lNil)
  (sSeq (sFor (iEnumD (dCall 2 m_pages_of (aCons (dVar 0) (aCons (dVar 1) aNil)))) (gT 2 (gsC (gN 4) (gsC (gN 5) gsN)))
  (sExtend 3 (dLcx (iItems1 (dCall 2 m_spots_on (aCons (dVar 5) (aCons (dVar 2) aNil)))) (gN 6) tTrue (d2 addD (dTup (lCons (dVar 4) lNil)) (dVar 6)) [6])))
  (sRet (d1 tupleD (dOwn 3)))))
def m_spots : List Sl → R PyData := den 7 b_spots
def b_on_page : Ev → R Out := (sSeq (sOwnL 4 lNil)
  (sSeq (sFor (iEnumD (dVar 2)) (gT 2 (gsC (gN 5) (gsC (gN 6) gsN)))
  (sExtend 4 (dLcx (iItems1 (dCall 3 m_spots (aCons (dVar 0) (aCons (dVar 1) (aCons (dVar 6) aNil))))) (gN 7) (dTest (d2 eqD (d2 ixD (dVar 7) (dC (.int 0))) (dVar 3))) (d2 addD (dSlice (dVar 7) (oSome (dC (.int 1))) oNone) (dTup (lCons (dVar 5) lNil))) [7])))
  (sRet (d1 tupleD (d1 sortedD (dOwn 4))))))
def m_on_page : List Sl → R PyData := den 8 b_on_page
def b_law_note : Ev → R Out := (sSeq (sAsg (dCall 2 m_law_place (aCons (dVar 0) (aCons (dVar 1) aNil))) (gT 3 (gsC (gN 4) (gsC (gN 5) (gsC (gN 6) gsN)))))
  (sSeq (sAsg (d1 lenD (d2 ixD (d2 ixD (d2 ixD (dVar 1) (dVar 4)) (dC (.int 1))) (dVar 5))) (gN 2))
  (sSeq (sAsg (d2 addD (d2 addD (dVar 6) (dC (.int 1))) (dCall 3 m_law_mix (aCons (dVar 0) (aCons (dC (.int 9767)) (aCons (d2 subD (dVar 2) (dVar 6)) aNil))))) (gN 3))
  (sSeq (sIf (dTest (d2 eqD (dCall 3 m_law_mix (aCons (dVar 0) (aCons (dC (.int 9749)) (aCons (dC (.int 4)) aNil)))) (dC (.int 0)))) (sPar 6 3 (lCons (dC (.int 0)) (lCons (dVar 2) lNil))) sNil)
  (sRet (dTup (lCons (dTup (lCons (dVar 4) (lCons (dVar 5) (lCons (dVar 6) lNil)))) (lCons (dTup (lCons (dVar 4) (lCons (dVar 5) (lCons (dVar 3) lNil)))) (lCons (dSm1 stripD (dSlice (dCall 1 m_law_text (aCons (d2 addD (dVar 0) (dC (.int 3))) aNil)) oNone (oSome (dC (.int 20)))) (dC (.str " "))) lNil)))))))))
def m_law_note : List Sl → R PyData := den 7 b_law_note
def b_law_spots : Ev → R Out := (sSeq (sDctNew 2)
  (sSeq (sFor (iEnumD (dVar 0)) (gT 2 (gsC (gN 3) (gsC (gN 4) gsN)))
  (sFor (iEnumD (dVar 4)) (gT 2 (gsC (gN 5) (gsC (gN 6) gsN)))
  (sIf (dAnd (dTest (d2 eqD (d2 ixD (dVar 6) (dC (.int 0))) (dC (.str "text")))) (dTest (d2 eqD (dSlice (dVar 6) (oSome (dC (.int 1))) (oSome (dC (.int 3)))) (dSlice (d2 ixD (dVar 1) (dC (.int 0))) oNone (oSome (dC (.int 2))))))) (sFor (iRange2 (d2 ixD (dVar 6) (dC (.int 3))) (d2 ixD (dVar 6) (dC (.int 4)))) (gN 7)
  (sIf (dTest (dChain leD ltD (d2 ixD (d2 ixD (dVar 1) (dC (.int 0))) (dC (.int 2))) (dVar 7) (d2 ixD (d2 ixD (dVar 1) (dC (.int 1))) (dC (.int 2))))) (sSeq (sAsg (d2 ixD (dDctGet 2 (dTup (lCons (dVar 3) (lCons (dVar 5) lNil))) (dTup (lCons (d2 subD (dVar 7) (d2 ixD (dVar 6) (dC (.int 3)))) (lCons (dC (.int 0)) lNil)))) (dC (.int 0))) (gN 9))
  (sDctSet 2 (dTup (lCons (dVar 3) (lCons (dVar 5) lNil))) (dTup (lCons (dVar 9) (lCons (d2 addD (d2 subD (dVar 7) (d2 ixD (dVar 6) (dC (.int 3)))) (dC (.int 1))) lNil))))) sNil)) sNil)))
  (sRet (d1 tupleD (dLcx (iItems1 (dDctKeys 2)) (gN 8) tTrue (d2 addD (dVar 8) (dDctIx 2 (dVar 8))) [8])))))
def m_law_spots : List Sl → R PyData := den 10 b_law_spots
def b_new_text : Ev → R Out := (sSeq (sAsg (dVar 1) (gT 5 (gsC (gN 4) (gsC (gN 5) (gsC (gN 6) (gsC (gN 7) (gsC (gN 8) gsN)))))))
  (sSeq (sIf (dOr (dNot (dTest (dChain leD ltD (dC (.int 0)) (dVar 4) (d1 lenD (dVar 0))))) (dNot (dTest (dChain leD ltD (dC (.int 0)) (dVar 5) (d1 lenD (d2 ixD (d2 ixD (dVar 0) (dVar 4)) (dC (.int 1)))))))) (sRaise "BadEdition") sNil)
  (sSeq (sAsg (d2 ixD (d2 ixD (d2 ixD (dVar 0) (dVar 4)) (dC (.int 1))) (dVar 5)) (gN 2))
  (sSeq (sAsg (d2 addD (d2 addD (dSlice (dVar 2) oNone (oSome (d2 max2D (dVar 6) (dC (.int 0))))) (dVar 8)) (dSlice (dVar 2) (oSome (d2 max2D (dVar 7) (dC (.int 0)))) oNone)) (gN 3))
  (sSeq (sIf (dOr (dNot (dTest (dChain3 leD leD leD (dC (.int 0)) (dVar 6) (dVar 7) (d1 lenD (dVar 2))))) (dNot (dTr (dCall 1 m_is_text (aCons (dVar 3) aNil))))) (sRaise "BadEdition") sNil)
  (sRet (dVar 3)))))))
def m_new_text : List Sl → R PyData := den 9 b_new_text
def b_done : Ev → R Out := (sSeq (sAsg (dCall 2 m_new_text (aCons (dVar 0) (aCons (dVar 1) aNil))) (gN 2))
  (sSeq (sAsg (dSlice (dVar 1) oNone (oSome (dC (.int 2)))) (gT 2 (gsC (gN 4) (gsC (gN 5) gsN))))
  (sSeq (sAsg (d2 ixD (dVar 0) (dVar 4)) (gT 2 (gsC (gN 6) (gsC (gN 7) gsN))))
  (sSeq (sAsg (dTup (lCons (dVar 6) (lCons (d2 addD (d2 addD (dSlice (dVar 7) oNone (oSome (dVar 5))) (dTup (lCons (dVar 2) lNil))) (dSlice (dVar 7) (oSome (d2 addD (dVar 5) (dC (.int 1)))) oNone)) lNil))) (gN 3))
  (sRet (d2 addD (d2 addD (dSlice (dVar 0) oNone (oSome (dVar 4))) (dTup (lCons (dVar 3) lNil))) (dSlice (dVar 0) (oSome (d2 addD (dVar 4) (dC (.int 1)))) oNone)))))))
def m_done : List Sl → R PyData := den 8 b_done
def b_turned : Ev → R Out := (sSeq (sDrop (dCall 2 m_new_text (aCons (dVar 0) (aCons (dVar 1) aNil))))
  (sSeq (sAsg (dVar 1) (gT 5 (gsC (gN 2) (gsC (gN 3) (gsC (gN 4) (gsC (gN 5) (gsC (gN 6) gsN)))))))
  (sRet (dTup (lCons (dVar 2) (lCons (dVar 3) (lCons (dVar 4) (lCons (d2 addD (dVar 4) (d1 lenD (dVar 6))) (lCons (dSlice (d2 ixD (d2 ixD (d2 ixD (dVar 0) (dVar 2)) (dC (.int 1))) (dVar 3)) (oSome (dVar 4)) (oSome (dVar 5))) lNil)))))))))
def m_turned : List Sl → R PyData := den 7 b_turned
def b_law_edition : Ev → R Out := (sSeq (sAsg (dCall 2 m_law_place (aCons (dVar 0) (aCons (dVar 1) aNil))) (gT 3 (gsC (gN 5) (gsC (gN 6) (gsC (gN 7) gsN)))))
  (sSeq (sAsg (d1 lenD (d2 ixD (d2 ixD (d2 ixD (dVar 1) (dVar 5)) (dC (.int 1))) (dVar 6))) (gN 2))
  (sSeq (sAsg (d2 addD (dVar 7) (dCall 3 m_law_mix (aCons (dVar 0) (aCons (dC (.int 9739)) (aCons (d2 addD (d2 min2D (dC (.int 12)) (d2 subD (dVar 2) (dVar 7))) (dC (.int 1))) aNil))))) (gN 3))
  (sSeq (sIf (dTest (d2 eqD (dCall 3 m_law_mix (aCons (dVar 0) (aCons (dC (.int 9733)) (aCons (dC (.int 6)) aNil)))) (dC (.int 0)))) (sAsg (d2 ixD (dTup (lCons (dTup (lCons (dC (.int 0)) (lCons (dC (.int 0)) lNil))) (lCons (dTup (lCons (dVar 2) (lCons (dVar 2) lNil))) (lCons (dTup (lCons (dC (.int 0)) (lCons (dVar 2) lNil))) (lCons (dTup (lCons (dC (.int 0)) (lCons (d2 subD (dVar 2) (dC (.int 1))) lNil))) lNil))))) (dCall 3 m_law_mix (aCons (dVar 0) (aCons (dC (.int 9721)) (aCons (dC (.int 4)) aNil))))) (gT 2 (gsC (gN 7) (gsC (gN 3) gsN)))) sNil)
  (sSeq (sAsg (d2 ixD (dTup (lCons (dC (.str "")) (lCons (dC (.str "x")) (lCons (dC (.str "no")) (lCons (dC (.str "well done")) (lCons (dC (.str " x")) (lCons (dC (.str "x ")) (lCons (dC (.str " ")) (lCons (dC (.str "a b c d e f g h i jk")) lNil))))))))) (dCall 3 m_law_mix (aCons (dVar 0) (aCons (dC (.int 9719)) (aCons (dC (.int 8)) aNil))))) (gN 4))
  (sRet (dTup (lCons (dVar 5) (lCons (dVar 6) (lCons (dVar 7) (lCons (dVar 3) (lCons (dVar 4) lNil))))))))))))
def m_law_edition : List Sl → R PyData := den 8 b_law_edition
def b_law_edited : Ev → R Out := (sSeq (sAsg (dVar 1) (gT 5 (gsC (gN 5) (gsC (gN 6) (gsC (gN 7) (gsC (gN 8) (gsC (gN 9) gsN)))))))
  (sSeq (sIf (dOr (dNot (dTest (dChain leD ltD (dC (.int 0)) (dVar 5) (d1 lenD (dVar 0))))) (dNot (dTest (dChain leD ltD (dC (.int 0)) (dVar 6) (d1 lenD (d2 ixD (d2 ixD (dVar 0) (dVar 5)) (dC (.int 1)))))))) (sRet (dC .none)) sNil)
  (sSeq (sAsg (d2 ixD (d2 ixD (d2 ixD (dVar 0) (dVar 5)) (dC (.int 1))) (dVar 6)) (gN 2))
  (sSeq (sIf (dNot (dTest (dChain3 leD leD leD (dC (.int 0)) (dVar 7) (dVar 8) (d1 lenD (dVar 2))))) (sRet (dC .none)) sNil)
  (sSeq (sAsg (d2 addD (d2 addD (dSlice (dVar 2) oNone (oSome (dVar 7))) (dVar 9)) (dSlice (dVar 2) (oSome (dVar 8)) oNone)) (gN 3))
  (sSeq (sAsg (dLcx (iItems1 (dVar 3)) (gN 10) (dNot (dTest (dChain leD leD (dC (.str " ")) (dVar 10) (dC (.str "~"))))) (dVar 10) [10]) (gN 4))
  (sSeq (sIf (dOr (dNot (dTest (dChain leD leD (dC (.int 1)) (d1 lenD (dVar 3)) (dC (.int 60))))) (dOr (dTest (d2 neD (dVar 3) (dSm1 stripD (dVar 3) (dC (.str " "))))) (dOr (dTest (d2 inD (dC (.str "  ")) (dVar 3))) (dTr (dVar 4))))) (sRet (dC .none)) sNil)
  (sRet (dVar 3)))))))))
def m_law_edited : List Sl → R PyData := den 11 b_law_edited
def b_more_by : Ev → R Out := (sRet (d2 subD (d1 lenD (d2 ixD (dVar 0) (dC (.int 4)))) (d2 subD (d2 ixD (dVar 0) (dC (.int 3))) (d2 ixD (dVar 0) (dC (.int 2))))))
def m_more_by : List Sl → R PyData := den 1 b_more_by
def b_led : Ev → R Out := (sSeq (sAsg (dCall 2 m_new_text (aCons (dVar 0) (aCons (dVar 2) aNil))) (gN 3))
  (sSeq (sAsg (dSlice (dVar 2) (oSome (dC (.int 2))) (oSome (dC (.int 4)))) (gT 2 (gsC (gN 4) (gsC (gN 5) gsN))))
  (sSeq (sIf (dOr (dTest (d2 neD (dSlice (dVar 1) oNone (oSome (dC (.int 2)))) (dSlice (dVar 2) oNone (oSome (dC (.int 2)))))) (dTest (d2 ltD (d2 ixD (dVar 1) (dC (.int 2))) (dVar 4)))) (sRet (dVar 1)) sNil)
  (sSeq (sIf (dTest (d2 geD (d2 ixD (dVar 1) (dC (.int 2))) (dVar 5))) (sRet (d2 addD (dSlice (dVar 1) oNone (oSome (dC (.int 2)))) (dTup (lCons (d2 addD (d2 ixD (dVar 1) (dC (.int 2))) (dCall 1 m_more_by (aCons (dVar 2) aNil))) lNil)))) sNil)
  (sRet (d2 addD (dSlice (dVar 1) oNone (oSome (dC (.int 2)))) (dTup (lCons (d2 min2D (dVar 4) (d2 subD (d1 lenD (dVar 3)) (dC (.int 1)))) lNil))))))))
def m_led : List Sl → R PyData := den 6 b_led
def b_led_note : Ev → R Out := (sSeq (sDrop (dCall 2 m_new_text (aCons (dVar 0) (aCons (dVar 2) aNil))))
  (sSeq (sAsg (dVar 1) (gT 3 (gsC (gN 3) (gsC (gN 4) (gsC (gN 5) gsN)))))
  (sSeq (sAsg (dSlice (dVar 2) (oSome (dC (.int 2))) (oSome (dC (.int 4)))) (gT 2 (gsC (gN 6) (gsC (gN 7) gsN))))
  (sSeq (sIf (dTest (d2 neD (dSlice (dVar 3) oNone (oSome (dC (.int 2)))) (dSlice (dVar 2) oNone (oSome (dC (.int 2)))))) (sRet (dVar 1)) sNil)
  (sSeq (sPar 8 9 (lCons (d2 ixD (dVar 3) (dC (.int 2))) (lCons (d2 ixD (dVar 4) (dC (.int 2))) lNil)))
  (sSeq (sIf (dTest (d2 geD (dVar 8) (dVar 7))) (sAsg (d2 addD (dVar 8) (dCall 1 m_more_by (aCons (dVar 2) aNil))) (gN 8)) (sIf (dTest (d2 geD (dVar 8) (dVar 6))) (sAsg (d2 addD (dVar 6) (d1 lenD (d2 ixD (dVar 2) (dC (.int 4))))) (gN 8)) sNil))
  (sSeq (sIf (dAnd (dTest (d2 gtA (dVar 9) (dVar 6))) (dTest (d2 geD (dVar 9) (dVar 7)))) (sAsg (d2 addD (dVar 9) (dCall 1 m_more_by (aCons (dVar 2) aNil))) (gN 9)) (sIf (dTest (d2 gtA (dVar 9) (dVar 6))) (sAsg (dVar 6) (gN 9)) sNil))
  (sSeq (sIf (dTest (d2 geD (dVar 8) (dVar 9))) (sRet (dC .none)) sNil)
  (sRet (dTup (lCons (d2 addD (dSlice (dVar 3) oNone (oSome (dC (.int 2)))) (dTup (lCons (dVar 8) lNil))) (lCons (d2 addD (dSlice (dVar 4) oNone (oSome (dC (.int 2)))) (dTup (lCons (dVar 9) lNil))) (lCons (dVar 5) lNil)))))))))))))
def m_led_note : List Sl → R PyData := den 10 b_led_note
def b_law_good : Ev → R Out := (sSeq (sFor (iRange1 (dC (.int 40))) (gN 2)
  (sSeq (sAsg (dCall 2 m_law_edition (aCons (d2 addD (dVar 0) (d2 mulD (dC (.int 19)) (dVar 2))) (aCons (dVar 1) aNil))) (gN 3))
  (sIf (dTest (d2 isnD (dCall 2 m_law_edited (aCons (dVar 1) (aCons (dVar 3) aNil))) (dC .none))) (sRet (dVar 3)) sNil)))
  (sRet (dTup (lCons (dC (.int 0)) (lCons (dC (.int 0)) (lCons (dC (.int 0)) (lCons (dC (.int 0)) (lCons (dC (.str "")) lNil))))))))
def m_law_good : List Sl → R PyData := den 4 b_law_good
def b_law_led : Ev → R Out := (sSeq (sAsg (dVar 1) (gT 5 (gsC (gN 4) (gsC (gN 5) (gsC (gN 6) (gsC (gN 7) (gsC (gN 8) gsN)))))))
  (sSeq (sAsg (d2 ixD (dVar 0) (dC (.int 2))) (gN 3))
  (sSeq (sIf (dAnd (dTest (d2 eqD (dSlice (dVar 0) oNone (oSome (dC (.int 2)))) (dTup (lCons (dVar 4) (lCons (dVar 5) lNil))))) (dTest (d2 geD (dVar 3) (dVar 6)))) (sAsg (dIf (dTest (d2 geD (dVar 3) (dVar 7))) (d2 addD (d2 addD (d2 subD (dVar 3) (dVar 7)) (dVar 6)) (d1 lenD (dVar 8))) (d2 min2D (dVar 6) (d2 subD (dVar 2) (dC (.int 1))))) (gN 3)) sNil)
  (sRet (d2 addD (dSlice (dVar 0) oNone (oSome (dC (.int 2)))) (dTup (lCons (dVar 3) lNil)))))))
def m_law_led : List Sl → R PyData := den 9 b_law_led
def b_law_led_note : Ev → R Out := (sSeq (sAsg (dVar 1) (gT 5 (gsC (gN 5) (gsC (gN 6) (gsC (gN 7) (gsC (gN 8) (gsC (gN 9) gsN)))))))
  (sSeq (sPar 10 11 (lCons (d2 ixD (d2 ixD (dVar 0) (dC (.int 0))) (dC (.int 2))) (lCons (d2 ixD (d2 ixD (dVar 0) (dC (.int 1))) (dC (.int 2))) lNil)))
  (sSeq (sIf (dTest (d2 neD (dSlice (d2 ixD (dVar 0) (dC (.int 0))) oNone (oSome (dC (.int 2)))) (dTup (lCons (dVar 5) (lCons (dVar 6) lNil))))) (sRet (dVar 0)) sNil)
  (sSeq (sAsg (d2 addD (d2 subD (d1 lenD (dVar 9)) (dVar 8)) (dVar 7)) (gN 2))
  (sSeq (sAsg (dIf (dTest (d2 ltD (dVar 10) (dVar 7))) (dVar 10) (d2 addD (dVar 7) (d1 lenD (dVar 9)))) (gN 3))
  (sSeq (sIf (dTest (d2 geD (dVar 10) (dVar 8))) (sAsg (d2 addD (dVar 10) (dVar 2)) (gN 3)) sNil)
  (sSeq (sAsg (dIf (dTest (dChain ltD ltD (dVar 7) (dVar 11) (dVar 8))) (dVar 7) (d2 addD (dVar 11) (dVar 2))) (gN 4))
  (sSeq (sIf (dTest (d2 leD (dVar 11) (dVar 7))) (sAsg (dVar 11) (gN 4)) sNil)
  (sSeq (sIf (dTest (d2 geD (dVar 3) (dVar 4))) (sRet (dC .none)) sNil)
  (sRet (dTup (lCons (d2 addD (dSlice (d2 ixD (dVar 0) (dC (.int 0))) oNone (oSome (dC (.int 2)))) (dTup (lCons (dVar 3) lNil))) (lCons (d2 addD (dSlice (d2 ixD (dVar 0) (dC (.int 1))) oNone (oSome (dC (.int 2)))) (dTup (lCons (dVar 4) lNil))) (lCons (d2 ixD (dVar 0) (dC (.int 2))) lNil))))))))))))))
def m_law_led_note : List Sl → R PyData := den 12 b_law_led_note
def b_law_sign : Ev → R Out := (sRet (d2 ixD (d2 ixD (d2 ixD (d2 ixD (dVar 0) (d2 ixD (dVar 1) (dC (.int 0)))) (dC (.int 1))) (d2 ixD (dVar 1) (dC (.int 1)))) (d2 ixD (dVar 1) (dC (.int 2)))))
def m_law_sign : List Sl → R PyData := den 2 b_law_sign
def b_law_signs : Ev → R Out := (sRet (dSlice (d2 ixD (d2 ixD (d2 ixD (dVar 0) (d2 ixD (d2 ixD (dVar 1) (dC (.int 0))) (dC (.int 0)))) (dC (.int 1))) (d2 ixD (d2 ixD (dVar 1) (dC (.int 0))) (dC (.int 1)))) (oSome (d2 ixD (d2 ixD (dVar 1) (dC (.int 0))) (dC (.int 2)))) (oSome (d2 ixD (d2 ixD (dVar 1) (dC (.int 1))) (dC (.int 2))))))
def m_law_signs : List Sl → R PyData := den 2 b_law_signs
def b_law_touches : Ev → R Out := (sRet (dAndV (d2 eqD (dSlice (dVar 0) oNone (oSome (dC (.int 2)))) (dSlice (d2 ixD (dVar 1) (dC (.int 0))) oNone (oSome (dC (.int 2))))) (dAndV (d2 ltD (d2 ixD (dVar 0) (dC (.int 2))) (d2 ixD (d2 ixD (dVar 1) (dC (.int 1))) (dC (.int 2)))) (d2 gtA (d2 ixD (dVar 0) (dC (.int 3))) (d2 ixD (d2 ixD (dVar 1) (dC (.int 0))) (dC (.int 2)))))))
def m_law_touches : List Sl → R PyData := den 2 b_law_touches
def b_law_back : Ev → R Out := (sSeq (sFor (iItems1 (dSlice3 (dVar 3) oNone oNone (oSome (d1 negD (dC (.int 1)))))) (gN 4)
  (sSeq (sAsg (dLcx (iItems1 (dVar 1)) (gN 5) tTrue (dCall 3 m_led_note (aCons (dVar 0) (aCons (dVar 5) (aCons (dVar 4) aNil)))) [5]) (gN 1))
  (sSeq (sAsg (dCall 3 m_led (aCons (dVar 0) (aCons (dVar 2) (aCons (dVar 4) aNil)))) (gN 2))
  (sAsg (dCall 2 m_done (aCons (dVar 0) (aCons (dVar 4) aNil))) (gN 0)))))
  (sRet (dTup (lCons (dVar 0) (lCons (dVar 1) (lCons (dVar 2) lNil))))))
def m_law_back : List Sl → R PyData := den 6 b_law_back
def b_kept_row : Ev → R Out := (sSeq (sDctOf 2 (dLcx (iItems1 (dVar 0)) (gN 3) tTrue (dTup (lCons (d2 ixD (dVar 3) (dC (.int 0))) (lCons (dVar 3) lNil))) [3]))
  (sSeq (sIf (dOr (dDctNin 2 (d2 ixD (dVar 1) (dC (.int 0)))) (dTest (d2 ltX (dSlice (dDctIx 2 (d2 ixD (dVar 1) (dC (.int 0)))) (oSome (dC (.int 1))) (oSome (dC (.int 3)))) (dSlice (dVar 1) (oSome (dC (.int 1))) (oSome (dC (.int 3))))))) (sDctSet 2 (d2 ixD (dVar 1) (dC (.int 0))) (dVar 1)) sNil)
  (sRet (d1 tupleD (dLcx (iItems1 (dDctKeys 2)) (gN 4) tTrue (dDctIx 2 (dVar 4)) [4])))))
def m_kept_row : List Sl → R PyData := den 5 b_kept_row
def b_together : Ev → R Out := (sSeq (sFor (iItems1 (dVar 1)) (gN 2)
  (sAsg (dCall 2 m_kept_row (aCons (dVar 0) (aCons (dVar 2) aNil))) (gN 0)))
  (sRet (dVar 0)))
def m_together : List Sl → R PyData := den 3 b_together
def b_values_of : Ev → R Out := (sRet (d1 tupleD (dLcx (iItems1 (dVar 0)) (gT 4 (gsC (gN 1) (gsC (gN 2) (gsC (gN 3) (gsC (gN 4) gsN))))) (dTest (d2 isnD (dVar 4) (dC .none))) (dTup (lCons (dVar 1) (lCons (dVar 4) lNil))) [1, 2, 3, 4])))
def m_values_of : List Sl → R PyData := den 5 b_values_of
def b_law_row : Ev → R Out := (sSeq (sAsg (d2 ixD (dTup (lCons (dC (.str "at")) (lCons (dC (.str "far")) (lCons (dC (.str "note")) (lCons (dC (.str "n")) (lCons (dC (.str "z")) lNil)))))) (dCall 3 m_law_mix (aCons (dVar 0) (aCons (dC (.int 9661)) (aCons (dC (.int 5)) aNil))))) (gN 2))
  (sSeq (sAsg (d2 ixD (dTup (lCons (dC (.str "a")) (lCons (dC (.str "b")) (lCons (dC (.str "pad")) lNil)))) (dCall 3 m_law_mix (aCons (dVar 0) (aCons (dC (.int 9649)) (aCons (dC (.int 3)) aNil))))) (gN 3))
  (sSeq (sAsg (dTup (lCons (dC .none) (lCons (dCall 2 m_law_place (aCons (dVar 0) (aCons (dVar 1) aNil))) (lCons (dCall 2 m_law_place (aCons (d2 addD (dVar 0) (dC (.int 1))) (aCons (dVar 1) aNil))) (lCons (dCall 2 m_law_note (aCons (d2 addD (dVar 0) (dC (.int 2))) (aCons (dVar 1) aNil))) lNil))))) (gN 4))
  (sSeq (sAsg (d2 ixD (dVar 4) (dCall 3 m_law_mix (aCons (dVar 0) (aCons (dC (.int 9643)) (aCons (dC (.int 4)) aNil))))) (gN 5))
  (sRet (dTup (lCons (dVar 2) (lCons (dCall 3 m_law_mix (aCons (dVar 0) (aCons (dC (.int 9631)) (aCons (dC (.int 10)) aNil)))) (lCons (dVar 3) (lCons (dVar 5) lNil))))))))))
def m_law_row : List Sl → R PyData := den 6 b_law_row
def b_law_newer : Ev → R Out := (sSeq (sIf (dOr (dTest (d2 isD (dVar 0) (dC .none))) (dTest (d2 isD (dVar 1) (dC .none)))) (sRet (dOrX (dVar 0) (dVar 1))) sNil)
  (sRet (dIf (dTest (d2 ltX (dTup (lCons (d2 ixD (dVar 0) (dC (.int 1))) (lCons (d2 ixD (dVar 0) (dC (.int 2))) lNil))) (dTup (lCons (d2 ixD (dVar 1) (dC (.int 1))) (lCons (d2 ixD (dVar 1) (dC (.int 2))) lNil))))) (dVar 1) (dVar 0))))
def m_law_newer : List Sl → R PyData := den 2 b_law_newer
def b_law_rows : Ev → R Out := (sSeq (sDctNew 2)
  (sSeq (sFor (iRange1 (dCall 3 m_law_mix (aCons (dVar 0) (aCons (dC (.int 9629)) (aCons (dC (.int 9)) aNil))))) (gN 3)
  (sSeq (sAsg (dCall 2 m_law_row (aCons (d2 addD (dVar 0) (d2 mulD (dC (.int 37)) (dVar 3))) (aCons (dVar 1) aNil))) (gN 4))
  (sDctSet 2 (d2 ixD (dVar 4) (dC (.int 0))) (dCall 2 m_law_newer (aCons (dDctGet 2 (d2 ixD (dVar 4) (dC (.int 0))) (dC .none)) (aCons (dVar 4) aNil))))))
  (sRet (d1 tupleD (dLcx (iItems1 (dDctKeys 2)) (gN 5) tTrue (dDctIx 2 (dVar 5)) [5])))))
def m_law_rows : List Sl → R PyData := den 6 b_law_rows
def b_law_kept : Ev → R Out := (sSeq (sAsg (dTup lNil) (gN 3))
  (sSeq (sFor (iRange1 (dCall 3 m_law_mix (aCons (dVar 0) (aCons (dC (.int 9623)) (aCons (dC (.int 7)) aNil))))) (gN 4)
  (sSeq (sAsg (dCall 2 m_law_row (aCons (d2 addD (dVar 0) (d2 mulD (dC (.int 41)) (dVar 4))) (aCons (dVar 1) aNil))) (gT 4 (gsC (gN 5) (gsC (gN 6) (gsC (gN 7) (gsC (gN 8) gsN))))))
  (sIf (dTest (d2 notInD (dVar 6) (dLcx (iItems1 (dVar 3)) (gN 9) tTrue (d2 ixD (dVar 9) (dC (.int 1))) [9]))) (sAsg (dCall 2 m_kept_row (aCons (dVar 3) (aCons (dTup (lCons (dVar 5) (lCons (dVar 6) (lCons (dVar 2) (lCons (dVar 8) lNil))))) aNil))) (gN 3)) sNil)))
  (sRet (dVar 3))))
def m_law_kept : List Sl → R PyData := den 10 b_law_kept
def b_law_seen : Ev → R Out := (sSeq (sAsg (dCall 2 m_pages_of (aCons (dVar 0) (aCons (dVar 1) aNil))) (gN 3))
  (sSeq (sAsg (dC (.str "")) (gN 4))
  (sSeq (sFor (iItems1 (dCall 3 m_spots (aCons (dVar 0) (aCons (dVar 1) (aCons (dVar 2) aNil))))) (gT 4 (gsC (gN 5) (gsC (gN 6) (gsC (gN 7) (gsC (gN 8) gsN)))))
  (sSeq (sAsg (d2 ixD (d2 ixD (dVar 3) (dVar 5)) (dVar 6)) (gT 5 (gsC (gN 9) (gsC (gN 10) (gsC (gN 11) (gsC (gN 12) (gsC (gN 13) gsN)))))))
  (sAsg (d2 addD (dVar 4) (dSlice (d2 ixD (d2 ixD (d2 ixD (dVar 0) (dVar 10)) (dC (.int 1))) (dVar 11)) (oSome (d2 addD (dVar 12) (dVar 7))) (oSome (d2 addD (dVar 12) (dVar 8))))) (gN 4))))
  (sRet (dVar 4)))))
def m_law_seen : List Sl → R PyData := den 14 b_law_seen
def b_law_led_row : Ev → R Out := (sSeq (sIf (dTest (d2 eqD (d2 ixD (dVar 0) (dC (.int 0))) (dC (.str "gap")))) (sRet (dVar 0)) sNil)
  (sRet (d2 addD (dTup (lCons (d2 ixD (dVar 0) (dC (.int 0))) (lCons (d2 addD (d2 ixD (dVar 0) (dC (.int 1))) (dVar 1)) lNil))) (dSlice (dVar 0) (oSome (dC (.int 2))) oNone))))
def m_law_led_row : List Sl → R PyData := den 2 b_law_led_row
def b_law_chapters_alone : Ev → R Out := (sSeq (sAsg (dCall 2 m_pages_of (aCons (dVar 0) (aCons (dVar 1) aNil))) (gN 2))
  (sSeq (sFor (iEnumD (dVar 0)) (gT 2 (gsC (gN 3) (gsC (gN 4) gsN)))
  (sSeq (sAsg (dCall 2 m_pages_of (aCons (dTup (lCons (dVar 4) lNil)) (aCons (dVar 1) aNil))) (gN 5))
  (sSeq (sAsg (d2 ixD (d2 ixD (dCall 2 m_contents (aCons (dVar 0) (aCons (dVar 1) aNil))) (dVar 3)) (dC (.int 1))) (gN 6))
  (sSeq (sAsg (d1 tupleD (dLcx (iItems1 (dVar 5)) (gN 8) tTrue (d1 tupleD (dLcx (iItems1 (dVar 8)) (gN 9) tTrue (dCall 2 m_law_led_row (aCons (dVar 9) (aCons (dVar 3) aNil))) [9])) [8])) (gN 7))
  (sIf (dTest (d2 neD (dSlice (dVar 2) (oSome (dVar 6)) (oSome (d2 addD (dVar 6) (d1 lenD (dVar 5))))) (dVar 7))) (sRet (dC (.bool false))) sNil)))))
  (sRet (dC (.bool true)))))
def m_law_chapters_alone : List Sl → R PyData := den 10 b_law_chapters_alone
def b_law_part : Ev → R Out := (sSeq (sAsg (dMeth 0 "Reader" "part" 1 m_Reader_part aNil) (gT 2 (gsC (gN 2) (gsC (gN 3) gsN))))
  (sRet (dAndV (d2 eqD (d2 mulD (dVar 2) (dCall 1 m_count_signs (aCons (dVar 1) aNil))) (d2 mulD (dVar 3) (dCall 2 m_number_of (aCons (dVar 1) (aCons (dMeth 0 "Reader" "place" 1 m_Reader_place aNil) aNil))))) (d2 gtA (dVar 3) (dC (.int 0))))))
def m_law_part : List Sl → R PyData := den 4 b_law_part
def b_law_back_and_forth : Ev → R Out := (sSeq (sFor (iRange1 (dC (.int 4))) (gN 2)
  (sSeq (sMethB 0 "Reader" "back" 1 m_Reader_back aNil (fun env _ => env))
  (sIf (dTest (d2 neD (dMeth 0 "Reader" "place" 1 m_Reader_place aNil) (d2 ixD (dVar 1) (d2 subD (dC (.int 3)) (dVar 2))))) (sRetB (dC (.bool false))) sNil)))
  (sSeq (sFor (iRange1 (dC (.int 4))) (gN 2)
  (sSeq (sMethB 0 "Reader" "forth" 1 m_Reader_forth aNil (fun env _ => env))
  (sIf (dTest (d2 neD (dMeth 0 "Reader" "place" 1 m_Reader_place aNil) (d2 ixD (dVar 1) (d2 addD (dVar 2) (dC (.int 1)))))) (sRetB (dC (.bool false))) sNil)))
  (sRetB (dC (.bool true)))))
def m_law_back_and_forth : Big → List Sl → R ResB := denB 3 b_law_back_and_forth
def b_law_notes_led : Ev → R Out := (sSeq (sFor (iItems1 (dVar 3)) (gN 4)
  (sSeq (sAsg (dCall 3 m_led_note (aCons (dVar 0) (aCons (dVar 4) (aCons (dVar 2) aNil)))) (gN 5))
  (sSeq (sIf (dNot (dTr (dCall 2 m_law_touches (aCons (dVar 2) (aCons (dVar 4) aNil))))) (sIf (dOr (dTest (d2 isD (dVar 5) (dC .none))) (dTest (d2 neD (dCall 2 m_law_signs (aCons (dVar 1) (aCons (dVar 5) aNil))) (dCall 2 m_law_signs (aCons (dVar 0) (aCons (dVar 4) aNil)))))) (sRet (dC (.bool false))) sNil) sNil)
  (sIf (dAnd (dTest (d2 isnD (dVar 5) (dC .none))) (dTest (d2 neD (d2 ixD (dVar 5) (dC (.int 2))) (d2 ixD (dVar 4) (dC (.int 2)))))) (sRet (dC (.bool false))) sNil))))
  (sRet (dC (.bool true))))
def m_law_notes_led : List Sl → R PyData := den 6 b_law_notes_led
end LB

namespace L3
open PySem PySem.Spec PyProof.Rows L2
/-! ### behind a token: x.replace(..) of written texts -/
def tokP (s : Shared) : Prop := 1 ≤ s.toks
section
variable {X : Cx} {W : WX} {a b c e o : Expr} {f g' : Ev → R PyData} {t : Ev → R Bool} {g h : Ev → R Out} {st : Stmt} {sts rest : List Stmt} {more : List Expr} {pos pos' p p2 apos cpos : Pos}
/-- an expression, a test, a statement, a suite behind a token -/
def DET (X : Cx) (W : WX) (e : Expr) (f : Ev → R PyData) : Prop := PET X e (tBo X.K X.mg W f)
def DTT (X : Cx) (W : WX) (e : Expr) (t : Ev → R Bool) : Prop := ∀ (pins : List (Addr × Obj)) (s : Shared) (σ : L2.St) (H : Hp) (Q : Bool → Hp → Prop), tokP s → Inv X pins σ H s → tDT X.K X.mg W t σ H Q →
  wpAny (model X.prog X.w) X.A (isTrue e X.env (eval e X.env)) (TP X pins σ Q) X.xe s
def DST (X : Cx) (W : WX) (st : Stmt) (g : Ev → R Out) : Prop := PST X st (tDS X.K X.mg W g)
def DSsT (X : Cx) (W : WX) (sts : List Stmt) (g : Ev → R Out) : Prop := PSsT X sts (tDS X.K X.mg W g)
/-- what draws a token -/
def DTk (X : Cx) (W : WX) (e : Expr) (t : Ev → R Bool) : Prop := ∀ (pins : List (Addr × Obj)) (s : Shared) (σ : L2.St) (H : Hp) (Q : Bool → Hp → Prop), Inv X pins σ H s → tDT X.K X.mg W t σ H Q →
  wpAny (model X.prog X.w) X.A (isTrue e X.env (eval e X.env)) (fun d s' => tokP s' ∧ TP X pins σ Q d s') X.xe s
def DWk (X : Cx) (W : WX) (e : Expr) (t : Ev → R Bool) : Prop := ∀ (wh : Sem Value) (pins : List (Addr × Obj)) (s : Shared) (σ : L2.St) (H : Hp) (Q : Bool → Hp → Prop), Inv X pins σ H s → tDT X.K X.mg W t σ H Q →
  wpAny (model X.prog X.w) X.A (isTrue e X.env wh) (fun d s' => tokP s' ∧ TP X pins σ Q d s') X.xe s
def DSk (X : Cx) (W : WX) (st : Stmt) (g : Ev → R Out) : Prop := ∀ (pins : List (Addr × Obj)) (s : Shared) (σ : L2.St) (H : Hp) (D : Ends), Inv X pins σ H s → tDS X.K X.mg W g D σ H →
  wpAny (model X.prog X.w) X.A (exec st X.env) (fun d s' => tokP s' ∧ SP X pins D d s') X.xe s
theorem with_tok {α : Type} {M : Model} {A : Around} {E : Value → Shared → Prop} {s : Shared} {u : Sem α} {Q : α → Shared → Prop} (k : tokP s) (q : wpAny M A u Q E s) : wpAny M A u (fun d s' => tokP s' ∧ Q d s') E s :=
  wpAny_mono (PySem.wpAny_toks_of k q) (fun _ _ z => z) fun _ _ z => z.2
def dRepl (y z : Str) (f : Ev → R PyData) : Ev → R PyData := fun env => (f env).bind fun d => match d with
  | .str x => if x.length + (x.length + 1) * z.length ≤ 16777216 then .ok (.str (Txt.replace x y z)) else .bad
  | _ => .bad
theorem de_repl {y z : Str} {j k : Nat} {c0 c1 : Pos} (ha : DE X W o f) (hyz : (y == z) = false := by decide)
    (hst : starEach [.Constant (.str y) j c0, .Constant (.str z) k c1] X.env = [(false, eval (.Constant (.str y) j c0) X.env), (false, eval (.Constant (.str z) k c1) X.env)] := by rfl)
    (hbase : attributeBase o "replace" X.env (eval o X.env) = eval o X.env := by rfl) (hline : (apos.endLine == pos.line) = true := by rfl) :
    DET X W (.Call (.Attribute o "replace" apos) [.Constant (.str y) j c0, .Constant (.str z) k c1] [] pos) (dRepl y z f) := by
  intro pins s σ H Q h0 I ⟨H0, F, env, rl, p⟩
  refine CwR.pet_replC ha hyz hst hbase hline pins s σ H Q h0 I ⟨H0, F, env, rl, (Post.bind p).mono (fun d p1 v F1 H1 g1 q => ?_) fun c p1 => p1⟩
  cases d <;> first | exact p1.elim | skip
  rename_i x
  cases q
  have p1 : Post (if x.length + (x.length + 1) * z.length ≤ 16777216 then R.ok (PyData.str (Txt.replace x y z)) else .bad) _ _ := p1
  split at p1
  · rename_i hx
    exact ⟨x, rfl, hx, p1 _ F1 H1 g1 (.inl (.str _))⟩
  · exact p1.elim
theorem dtt_cmp {op : CmpOp} {r : R2} {gg : PyData → PyData → R PyData} (ho : OpR X (compareOp op) r) (hg : OpD r gg) (ha : DET X W a f) (hb : DET X W b g') (hm : behindInMarks op b = false := by rfl) : DTT X W (.Compare a [op] [b] pos) (dTest (d2 gg f g')) := by
  intro pins s σ H Q h0 I p
  have p := tTest_run (fun Q p => d2_run hg p) p
  refine wpAny_isTrue_Compare1 (thn (with_tok h0 (ha pins s σ H _ h0 I p)) fun v s1 ⟨k1, x, H1, I1, r1, q1⟩ => thn (hb pins s1 σ H1 _ k1 I1 q1) fun u s2 ⟨y, H2, I2, r2, q2⟩ => thn (ho pins s2 σ H2 x y v u _ I2 r1 r2 q2) fun w s3 ⟨z, H3, I3, r3, d, ez, q3⟩ => ?_) hm
  subst ez
  cases r3
  exact wpAny_truthy_bool ⟨H3, I3, q3⟩
/-- constants draw -/
def DEk (X : Cx) (W : WX) (e : Expr) (f : Ev → R PyData) : Prop := ∀ (pins : List (Addr × Obj)) (s : Shared) (σ : L2.St) (H : Hp) (Q : VK), Inv X pins σ H s → tBo X.K X.mg W f σ H Q →
  wpAny (model X.prog X.w) X.A (eval e X.env) (fun v s' => tokP s' ∧ EP X pins σ Q v s') X.xe s
theorem dek_int {i : Int} {j : Nat} : DEk X W (.Constant (.int i) j pos) (dC (.int i)) := by
  intro pins s σ H Q I ⟨H0, F, env, r, p⟩
  exact wpAny_Constant_int ⟨Nat.succ_le_succ (Nat.zero_le _), .int i, H, I.tok _, ⟨_, rfl⟩, p _ F H (.refl r.fh) (.inl (.int i))⟩
theorem dek_str {i : Str} {j : Nat} : DEk X W (.Constant (.str i) j pos) (dC (.str i)) := by
  intro pins s σ H Q I ⟨H0, F, env, r, p⟩
  exact Calls.Constant_str ⟨Nat.succ_le_succ (Nat.zero_le _), .str i, H, I.tok _, ⟨_, rfl⟩, p _ F H (.refl r.fh) (.inl (.str i))⟩
theorem dtk_cmp {op : CmpOp} {r : R2} {gg : PyData → PyData → R PyData} (ho : OpR X (compareOp op) r) (hg : OpD r gg) (ha : DB X W a f) (hb : DEk X W b g') (hm : behindInMarks op b = false := by rfl) : DTk X W (.Compare a [op] [b] pos) (dTest (d2 gg f g')) := by
  intro pins s σ H Q I p
  have p := tTest_run (fun Q p => d2_run hg p) p
  refine wpAny_isTrue_Compare1 (thn (ha.run pins s σ H _ I p) fun v s1 ⟨x, H1, I1, r1, q1⟩ => thn (hb pins s1 σ H1 _ I1 q1) fun u s2 ⟨k2, y, H2, I2, r2, q2⟩ => thn (with_tok k2 (ho pins s2 σ H2 x y v u _ I2 r1 r2 q2)) fun w s3 ⟨k3, z, H3, I3, r3, d, ez, q3⟩ => ?_) hm
  subst ez
  cases r3
  exact wpAny_truthy_bool ⟨k3, H3, I3, q3⟩
def PTk (X : Cx) (e : Expr) (t : TT) : Prop := ∀ (pins : List (Addr × Obj)) (s : Shared) (σ : L2.St) (H : Hp) (Q : Bool → Hp → Prop), Inv X pins σ H s → t σ H Q →
  wpAny (model X.prog X.w) X.A (isTrue e X.env (eval e X.env)) (fun d s' => tokP s' ∧ TP X pins σ Q d s') X.xe s
def PWk (X : Cx) (e : Expr) (t : TT) : Prop := ∀ (wh : Sem Value) (pins : List (Addr × Obj)) (s : Shared) (σ : L2.St) (H : Hp) (Q : Bool → Hp → Prop), Inv X pins σ H s → t σ H Q →
  wpAny (model X.prog X.w) X.A (isTrue e X.env wh) (fun d s' => tokP s' ∧ TP X pins σ Q d s') X.xe s
theorem pwk_and {tA tB : TT} (ha : PTk X a tA) (hb : PW X (.BoolOp .And (b :: more) pos) tB) : PWk X (.BoolOp .And (a :: b :: more) pos) (tAnd tA tB) := by
  intro wh pins s σ H Q I q
  refine isTrue_and (thn (ha pins s σ H _ I q) fun d s1 ⟨k1, H1, I1, q1⟩ => ?_)
  cases d with
  | false => exact ⟨k1, H1, I1, q1⟩
  | true => exact with_tok k1 (hb.run wh pins s1 σ H1 Q I1 q1)
theorem pwk_or {tA tB : TT} (ha : PTk X a tA) (hb : PW X (.BoolOp .Or (b :: more) pos) tB) : PWk X (.BoolOp .Or (a :: b :: more) pos) (tOr tA tB) := by
  intro wh pins s σ H Q I q
  refine isTrue_or (thn (ha pins s σ H _ I q) fun d s1 ⟨k1, H1, I1, q1⟩ => ?_)
  cases d with
  | true => exact ⟨k1, H1, I1, q1⟩
  | false => exact with_tok k1 (hb.run wh pins s1 σ H1 Q I1 q1)
theorem DWk.dt (h : DWk X W e t) : DTk X W e t := fun pins s σ H Q I q => h _ pins s σ H Q I q
theorem dwk_and {t u : Ev → R Bool} (ha : DTk X W a t) (hb : DW X W (.BoolOp .And (b :: more) pos) u) : DWk X W (.BoolOp .And (a :: b :: more) pos) (dAnd t u) := by
  intro wh pins s σ H Q I ⟨H0, F, env, rl, p⟩
  refine pwk_and ha hb wh pins s σ H Q I ⟨H0, F, env, rl, (Post.bind p).mono (fun k p1 F1 H1 g1 => ?_) fun c p1 => p1⟩
  cases k
  · exact iteF (p1 F1 H1 g1)
  · exact iteT ⟨H0, F1, env, rl.grow g1, Post.mono (show Post (u env) _ _ from p1) (fun d k F' H' g' => k F' H' (g1.trans g')) fun c k F' H' g' => k F' H' (g1.trans g')⟩
theorem dwk_or {t u : Ev → R Bool} (ha : DTk X W a t) (hb : DW X W (.BoolOp .Or (b :: more) pos) u) : DWk X W (.BoolOp .Or (a :: b :: more) pos) (dOr t u) := by
  intro wh pins s σ H Q I ⟨H0, F, env, rl, p⟩
  refine pwk_or ha hb wh pins s σ H Q I ⟨H0, F, env, rl, (Post.bind p).mono (fun k p1 F1 H1 g1 => ?_) fun c p1 => p1⟩
  cases k
  · exact iteF ⟨H0, F1, env, rl.grow g1, Post.mono (show Post (u env) _ _ from p1) (fun d k F' H' g' => k F' H' (g1.trans g')) fun c k F' H' g' => k F' H' (g1.trans g')⟩
  · exact iteT (p1 F1 H1 g1)
/-! statements -/
theorem dst_if {ss ss' : List Stmt} (hc : DTT X W c t) (ha : DSs X W ss g) (hb : DSs X W ss' h) : DST X W (.If c ss ss' pos) (sIf t g h) := by
  intro pins s σ H D h0 I ⟨F0, H0, F, env, gr, rl, p⟩
  refine wpAny_If (thn (hc pins s σ H (fun k H1 => ∃ F1, Grow F H F1 H1 ∧ Post (if k = true then g env else h env) (OutP X.K X.mg W F0 H0 D) (ExcP X.mg W F0 H0)) h0 I ⟨H0, F, env, rl, (Post.bind p).mono (fun k p1 F1 H1 g1 => ⟨F1, g1, p1⟩) fun c k => excOn gr k⟩) fun d s1 ⟨H1, I1, F1, g1, p1⟩ => ?_)
  cases d with
  | true => exact ha.run pins s1 σ H1 D I1 ⟨F0, H0, F1, env, gr.on g1, rl.grow g1, p1⟩
  | false => exact hb.run pins s1 σ H1 D I1 ⟨F0, H0, F1, env, gr.on g1, rl.grow g1, p1⟩
theorem dsk_if {ss ss' : List Stmt} (hc : DTk X W c t) (ha : DSs X W ss g) (hb : DSs X W ss' h) : DSk X W (.If c ss ss' pos) (sIf t g h) := by
  intro pins s σ H D I ⟨F0, H0, F, env, gr, rl, p⟩
  refine wpAny_If (thn (hc pins s σ H (fun k H1 => ∃ F1, Grow F H F1 H1 ∧ Post (if k = true then g env else h env) (OutP X.K X.mg W F0 H0 D) (ExcP X.mg W F0 H0)) I ⟨H0, F, env, rl, (Post.bind p).mono (fun k p1 F1 H1 g1 => ⟨F1, g1, p1⟩) fun c k => excOn gr k⟩) fun d s1 ⟨k1, H1, I1, F1, g1, p1⟩ => ?_)
  cases d with
  | true => exact with_tok k1 (ha.run pins s1 σ H1 D I1 ⟨F0, H0, F1, env, gr.on g1, rl.grow g1, p1⟩)
  | false => exact with_tok k1 (hb.run pins s1 σ H1 D I1 ⟨F0, H0, F1, env, gr.on g1, rl.grow g1, p1⟩)
theorem DS.tk (h : DS X W st g) : DST X W st g := fun pins s σ H D _ I q => h.run pins s σ H D I q
theorem DSs.tk (h : DSs X W sts g) : DSsT X W sts g := fun pins s σ H D _ I q => h.run pins s σ H D I q
theorem seq_run {D : Ends} {σ : L2.St} {H : Hp} (p : tDS X.K X.mg W (sSeq g h) D σ H) : tSeq (tDS X.K X.mg W g) (tDS X.K X.mg W h) D σ H := by
  obtain ⟨F0, H0, F, env, gr, rl, p⟩ := p
  refine ⟨F0, H0, F, env, gr, rl, (Post.bind p).mono (fun o k => ?_) fun _ k => k⟩
  cases o with
  | nx e => exact fun σ' F' H' g' r' => ⟨F0, H0, F', e, g', r', k⟩
  | rt d => exact k
  | bk e => exact k
  | ct e => exact k
  | rb b d => exact k
  | ex b c => exact k
theorem dsst_cons (h1 : DST X W st g) (h2 : DSsT X W rest h) : DSsT X W (st :: rest) (sSeq g h) := fun pins s σ H D h0 I p => psst_cons h1 h2 pins s σ H D h0 I (seq_run p)
theorem dsst_freeze (i : Nat) (h1 : DSsT X W sts g) : DSsT X W sts (sFreeze i g) := fun pins s σ H D h0 I p => h1 pins s σ H D h0 I (freeze_run p)
theorem dss_consK (h1 : DSk X W st g) (h2 : DSsT X W rest h) : DSs X W (st :: rest) (sSeq g h) := by
  refine ⟨fun pins s σ H D I p => ?_⟩
  have q := seq_run p
  refine wpAny_execs_cons (thn (h1 pins s σ H { D with nx := (tDS X.K X.mg W h) D } I q) fun fl s1 ⟨k1, q⟩ => ?_)
  cases fl with
  | next =>
    obtain ⟨σ', H', I', q⟩ := q
    exact h2 pins s1 σ' H' D k1 I' q
  | ret v => exact q
  | brk => exact q
  | cont => exact q
end
end L3

namespace L3
open PySem PySem.Spec PyProof.Rows L2
open PySem.W (alike alikeAll AllAlike Sortable dataLe EachIs)
/-! ### set(xs), whatever the members -/
abbrev newSetO (w : World) : Obj := { cls := .type "set", dict := none, data := .set #[] 0 (.fresh 0 0 (!w.params.followText "set-order")) }
section
variable {P : Program} {w : World} {A : Around} {E : Value → Shared → Prop} {s : Shared}
/-- what one more member does at the set S: J i, i members are in -/
def AddsAt (P : Program) (w : World) (A : Around) (S : Addr) (items : Array Value) (J : Nat → Heap → Prop) : Prop :=
  ∀ (B : Around) (D : Value → Shared → Prop) (u : Shared) (i : Nat) (v : Value) (Q : Unit → Shared → Prop), B.units ≤ A.units + 3 → items[i]? = some v → J i u.heap →
    (∀ (g : Heap) (tk : Nat), u.toks ≤ tk → Heap.SameBut S u.heap g → J (i + 1) g → Q () { u with heap := g, toks := tk }) → wpAny (model P w) B (setAdd S v) (fun _ => Q ()) D u
theorem loop_adds {I S : Addr} {fp wr : List Addr} {G : Array GenState → Array GenState → Prop} {St : Nat → Shared → Prop} {R : Result → Shared → Prop} {items : Array Value} {J : Nat → Heap → Prop} {A0 : Around}
    (W : WalksS P w A.in1 I fp wr G items.size (fun i v => items[i]? = some v) St) (nS : S ∉ fp) (add : AddsAt P w A0 S items J) (hu : A.in1.units ≤ A0.units + 3) (keep : ∀ i h h', J i h → (∀ b o, b ∉ wr → h.get? b = some o → h'.get? b = some o) → J i h') :
    ∀ (m i : Nat) (u : Shared), i + m = items.size → St i u → J i u.heap → (∀ u', Moved (S :: wr) G u u' → J items.size u'.heap → R (.ok (.ret .none)) u') → codeAny (model P w) A (.builtin "set.update.loop" ⟨[.ref S, .ref I], []⟩) R u
  | 0, i, u, e, st, j, q => by
    have e : i = items.size := e
    subst e
    refine codeAny_builtin F.entry_set_update_loop ?_
    rw [Around.under_plainId F.plain_set_update_loop _]
    show wpAny _ A.in1 (pyNext (.ref I) >>= _) _ _ u
    exact wpAny_bind (W.done u _ _ st fun u' mv => wpAny_pure (q u' (mv.mono fun b hb => List.mem_cons_of_mem _ hb) (keep _ _ _ j mv.heap)))
  | m + 1, i, u, e, st, j, q => by
    have lt : i < items.size := by omega
    have nSw : S ∉ wr := fun z => nS (W.sub _ z)
    refine codeAny_builtin F.entry_set_update_loop ?_
    rw [Around.under_plainId F.plain_set_update_loop _]
    show wpAny _ A.in1 (pyNext (.ref I) >>= _) _ _ u
    refine wpAny_bind (W.item i u _ _ lt st fun v u1 hv st1 mv => ?_)
    have j1 := keep _ _ _ j mv.heap
    show wpAny _ A.in1 (holding [v] (setAdd S v) >>= _) _ _ u1
    refine wpAny_bind (wpAny_holding (thn (add A.in1 _ u1 i v (fun _ u2 => ∃ g tk, u2 = { u1 with heap := g, toks := tk } ∧ u1.toks ≤ tk ∧ Heap.SameBut S u1.heap g ∧ J (i + 1) g) hu hv j1 fun g tk htk sb j2 => ⟨g, tk, rfl, htk, sb, j2⟩) fun _ u2 z => ?_))
    obtain ⟨g, tk, rfl, htk, sb, j2⟩ := z
    have eq1 : ∀ b, b ≠ S → g.get? b = u1.heap.get? b := sb.2
    refine wpAny_pure ⟨plainId_quiet F.plain_set_update_loop _, loop_adds W nS add hu keep m (i + 1) _ (by omega) (W.frame _ u1 _ _ st1 htk fun b hb o eo => (eq1 b fun z => nS (z ▸ hb)).trans eo) j2 fun u' mv' j' => q u' ?_ j'⟩
    exact Moved.trans W.gtrans ((mv.mono fun b hb => List.mem_cons_of_mem _ hb).then_heap htk fun b o hb eo => (eq1 b fun z => hb (z ▸ List.mem_cons_self)).trans eo) mv'
/-- what a row is as a source of members: its class, its iterator -/
structure SrcAt (P : Program) (w : World) (T : String) (l : Addr) (o it : Obj) (items : Array Value) : Prop where
  cls : o.cls = .type T
  nf : it.isFreed = false
  d : (Value.type T == Value.type "dict") = false
  s1 : isSubtype (.type T) (.type "set") = pure false
  s2 : isSubtype (.type T) (.type "frozenset") = pure false
  iter : ∀ (B : Around) (D : Value → Shared → Prop) (u : Shared) (Q : Value → Shared → Prop), u.heap.get? l = some o → Q (.ref u.heap.objs.size) { u with heap := u.heap.push it } → wpAny (model P w) B (pyIter (.ref l)) Q D u
  walk : ∀ (B : Around) (I : Addr), B.handled = none → l ≠ I → ∃ (G : Array GenState → Array GenState → Prop) (St : Nat → Shared → Prop), WalksS P w B I [I, l] [I] G items.size (fun i v => items[i]? = some v) St ∧ (∀ u : Shared, u.heap.get? I = some it → u.heap.get? l = some o → St 0 u) ∧ ∀ a b, G a b → b = a
theorem src_list {l : Addr} {items : Array Value} {h : Heap} (hl : h.IsList l items) : ∃ o it, h.get? l = some o ∧ SrcAt P w "list" l o it items := by
  obtain ⟨o, ho, hc, n, hd⟩ := hl
  exact ⟨o, _, ho, hc, rfl, by decide, PySem.F.sub_list_set, PySem.F.sub_list_frozenset, fun B D u Q e q => wpAny_pyIter_list ⟨o, e, hc, n, hd⟩ q, fun B I hh ne => ⟨_, _, (Walks.list hh I l ne items).toS, fun u e1 e2 => ⟨⟨_, e1, rfl, rfl⟩, ⟨o, e2, hc, n, hd⟩⟩, fun _ _ z => z⟩⟩
theorem src_tuple {l : Addr} {items : Array Value} {h : Heap} (hl : h.IsTuple l items) : ∃ o it, h.get? l = some o ∧ SrcAt P w "tuple" l o it items := by
  obtain ⟨o, ho, hc, n, hd⟩ := hl
  exact ⟨o, _, ho, hc, rfl, by decide, PySem.F.sub_tuple_set, PySem.F.sub_tuple_frozenset, fun B D u Q e q => wpAny_pyIter_tuple ⟨o, e, hc, n, hd⟩ q, fun B I hh ne => ⟨_, _, (Walks.tuple hh I l ne items).toS, fun u e1 e2 => ⟨⟨_, e1, rfl, rfl⟩, ⟨o, e2, hc, n, hd⟩⟩, fun _ _ z => z⟩⟩
set_option maxHeartbeats 4000000 in
/-- set(xs): the driver -/
theorem set_call {T : String} {l : Addr} {o it : Obj} {items : Array Value} {J : Nat → Heap → Prop} {Q : Value → Shared → Prop} (hh : A.handled = none) (src : SrcAt P w T l o it items) (ho : s.heap.get? l = some o)
    (add : AddsAt P w A s.heap.objs.size items J) (keep : ∀ i h h', J i h → (∀ b u, b ≠ s.heap.objs.size + 1 → h.get? b = some u → h'.get? b = some u) → J i h')
    (j0 : J 0 (s.heap.push (newSetO w)))
    (q : ∀ (h' : Heap) (tk : Nat), J items.size h' → (∀ b u, s.heap.get? b = some u → h'.get? b = some u) → Q (.ref s.heap.objs.size) { s with heap := h', toks := tk }) :
    wpAny (model P w) A (call (.type "set") [.ref l]) Q E s := by
  obtain ⟨c, tl, mro⟩ := PySem.F.called_set.mro
  have mm := PySem.F.called_set.made
  have sb := PySem.F.called_set.sub
  refine wpAny_call (codeAny_of_tree ?_)
  show wpAny _ _ (callAny (.type "set") _) _ _ _
  refine wpAny_pure ⟨Code.quiet_builtin _ (by decide +kernel), codeAny_builtin PySem.F.entry_type_call ?_⟩
  rw [Around.under_plain (weight_type_call_type "set" [.ref l] []) rfl]
  have n1 := PySem.F.called_set.notType
  have n2 := PySem.F.called_set.canCreate
  have n3 := PySem.F.typeCall_set_1 (.ref l)
  repeat (any_goals (first | assumption | wp_step))
  refine codeAny_mono (L2.code_set_led1 (.ref l) (E := E) (Q₁ := fun x u => x = .ref s.heap.objs.size ∧ u = { s with heap := s.heap.push (newSetO w) }) ⟨rfl, rfl⟩) fun r u hr => ?_
  cases r with
  | error e => exact hr
  | ok fl =>
    cases fl with
    | ret x =>
      obtain ⟨rfl, rfl⟩ := hr
      have oS : (s.heap.push (newSetO w)).get? s.heap.objs.size = some (newSetO w) := Heap.get?_push_size _ rfl
      have tS : Shared.TypeIs { s with heap := s.heap.push (newSetO w) } (.ref s.heap.objs.size) "set" := ⟨_, oS, rfl⟩
      have i1 := PySem.F.called_set.init.lookup
      have i2 := PySem.F.called_set.init.bind (.ref s.heap.objs.size)
      repeat (any_goals (first | assumption | wp_step))
      refine codeAny_mono (codeAny_call_builtin (R := wants (fun r u => r = .none ∧ ∃ h' tk, u = { s with heap := h', toks := tk } ∧ J items.size h' ∧ ∀ b y, s.heap.get? b = some y → h'.get? b = some y) E) PySem.F.called_set.init.plain PySem.F.entry_set_init (check_set_init_1 tS ?_)) fun r₂ u₂ hr₂ => ?_
      · have ho1 : (s.heap.push (newSetO w)).get? l = some o := Heap.get?_push_of_some _ ho
        have y1 := src.s1
        have y2 := src.s2
        have y3 := src.d
        have y4 := src.cls
        obtain ⟨ocls, odict, odata, oslots⟩ := o
        simp only at y4
        subst y4
        unfold Builtin.«set.__init__» noKeywords Builtin.Frozenset.updateFrom
        generalize hPI : pyIter = PI
        wp_walk
        subst hPI
        refine src.iter _ _ _ _ ho1 ?_
        refine wpAny_bind (wpAny_runValue ?_)
        have ltl : l < s.heap.objs.size := Heap.lt_size ho
        have zS : (s.heap.push (newSetO w)).objs.size = s.heap.objs.size + 1 := Heap.size_push ..
        obtain ⟨G, St, W, w0, wg⟩ := src.walk A.in1.in1.in1 (s.heap.push (newSetO w)).objs.size (by simp [hh]) (by rw [zS]; exact Nat.ne_of_lt (Nat.lt_succ_of_lt ltl))
        rw [zS] at W w0
        have nS : s.heap.objs.size ∉ [s.heap.objs.size + 1, l] := fun z => by
          rcases List.mem_cons.mp z with z | z
          · exact Nat.ne_of_lt (Nat.lt_succ_self _) z
          · exact Nat.ne_of_gt ltl (List.mem_singleton.mp z)
        show codeAny (model P w) A.in1.in1 (.builtin "set.update.loop" ⟨[.ref s.heap.objs.size, .ref (s.heap.push (newSetO w)).objs.size], []⟩) _ _
        rw [zS]
        have e1 : ((s.heap.push (newSetO w)).push it).get? (s.heap.objs.size + 1) = some it := by rw [← zS]; exact Heap.get?_push_size _ src.nf
        refine loop_adds W nS add (Nat.le_refl _) (fun i h h' j k => keep i h h' j fun b y hb => k b y fun z => hb (List.mem_singleton.mp z)) items.size 0 _ (Nat.zero_add _) (w0 _ e1 (Heap.get?_push_of_some _ ho1)) (keep 0 _ _ j0 fun b y _ => Heap.get?_push_of_some _) fun u' mv jn => ?_
        obtain ⟨h', g', d', tk', os'⟩ := u'
        have x1 : g' = s.gens := wg _ _ mv.gens
        have x2 : d' = s.drawn := mv.drawn
        have x3 : os' = s.os := mv.os
        subst x1 x2 x3
        refine wpAny_pure ?_
        refine wpAny_pure ⟨rfl, h', tk', rfl, jn, fun b y e => mv.heap b y (fun z => ?_) (Heap.get?_push_of_some _ (Heap.get?_push_of_some _ e))⟩
        have lb := Heap.lt_size e
        rcases List.mem_cons.mp z with z | z
        · exact Nat.ne_of_lt lb z
        · exact Nat.ne_of_lt (Nat.lt_succ_of_lt lb) (List.mem_singleton.mp z)
      · cases r₂ with
        | error e => exact hr₂
        | ok fl₂ =>
          cases fl₂ with
          | ret r =>
            obtain ⟨rfl, h', tk, rfl, hj, hk⟩ := hr₂
            repeat (any_goals (first | assumption | wp_step))
            exact q _ _ hj hk
          | _ => exact hr₂.elim
    | _ => exact hr.elim
end
end L3

namespace L3
open PySem PySem.Spec PyProof.Rows L2
open PySem.W (alike alikeAll AllAlike Sortable dataLe EachIs)
/-! ### sets of what can be looked through one by one -/
section
variable {P : Program} {w : World} {A : Around} {E : Value → Shared → Prop} {s : Shared} {K : Type} [DecidableEq K] {knd : KeyKind P w K} {a : Addr} {S : K → Bool} {n : Nat}
structure QTab (knd : KeyKind P w K) (S : K → Bool) (n : Nat) (es : Array (Int × Value)) (t : SetTable) : Prop where
  el : ElemsOf knd es.toList
  mem : ∀ k, S k = true ↔ ∃ e ∈ es.toList, knd.is k e.2 = true
  pw : es.toList.Pairwise fun x y => ∀ k, knd.is k x.2 = true → knd.is k y.2 = true → False
  few : es.size ≤ n
  fit : t.fits es.size = true
  ris : Ris t.place.toList
  led : w.params.followText "set-order" = true ∨ t.led = true
def SetQ (knd : KeyKind P w K) (h : Heap) (a : Addr) (S : K → Bool) (n : Nat) : Prop :=
  ∃ (o : Obj) (es : Array (Int × Value)) (ep : Nat) (t : SetTable), h.get? a = some o ∧ o.ExactSet ∧ o.data = .set es ep t ∧ QTab knd S n es t
theorem SetQ.at {h h' : Heap} (R : SetQ knd h a S n) (k : ∀ o, h.get? a = some o → h'.get? a = some o) : SetQ knd h' a S n := by
  obtain ⟨o, es, ep, t, ho, r⟩ := R
  exact ⟨o, es, ep, t, k o ho, r⟩
theorem SetQ.new {h : Heap} (ho : h.get? a = some (newSetO w)) : SetQ knd h a (fun _ => false) 0 :=
  ⟨_, #[], 0, _, ho, ⟨rfl, rfl, rfl⟩, rfl, ⟨fun e he => (by simp at he), fun k => (by simp), .nil, Nat.le_refl _, rfl, .nil, by
    show _ ∨ (!w.params.followText "set-order") = true
    cases w.params.followText "set-order" <;> simp⟩⟩
/-- other rows of the table's: the same members, laid anew -/
theorem QTab.perm {es es' : Array (Int × Value)} {t t' : SetTable} (q : QTab knd S n es t) (p : es'.toList.Perm es.toList) (f : t'.fits es'.size = true) (r : Ris t'.place.toList) (l : t'.led = t.led) : QTab knd S n es' t' := by
  have sz : es'.size = es.size := by rw [← Array.length_toList, p.length_eq, Array.length_toList]
  refine ⟨q.el.perm p, fun k => (q.mem k).trans ⟨fun ⟨e, h, z⟩ => ⟨e, p.mem_iff.mpr h, z⟩, fun ⟨e, h, z⟩ => ⟨e, p.mem_iff.mp h, z⟩⟩, ?_, by rw [sz]; exact q.few, f, r, q.led.imp id fun z => l.trans z⟩
  exact (p.pairwise_iff (R := fun x y : Int × Value => ∀ k, knd.is k x.2 = true → knd.is k y.2 = true → False) fun hxy k hy hx => hxy k hx hy).mpr q.pw
theorem store_tail {g : Bool → Sem Unit} (hg : ∀ (b : Bool) (u : Shared) (Q' : Unit → Shared → Prop), Q' () u → wpAny (model P w) A (g b) Q' E u) {o : Obj} {es0 : Array (Int × Value)} {ep : Nat} {t0 : SetTable} (ho : s.heap.get? a = some o) (hex : o.ExactSet) (hd : o.data = .set es0 ep t0)
    {es : Array (Int × Value)} {t : SetTable} (q : QTab knd S n es t) (hn : n < scanBound) {dummy : Bool} {R : Option Bool → Shared → Prop} (hR : ∀ h', Heap.SameBut a s.heap h' → SetQ knd h' a S n → R (some true) { s with heap := h' }) :
    wpAny (model P w) A (do
      storeSet a es t
      if (!dummy && t.tooFull) = true then do
          g (relayAll t es (SetTable.grown es.size)).2.2
          storeSet a (relayAll t es (SetTable.grown es.size)).1 (relayAll t es (SetTable.grown es.size)).2.1
          pure (some true)
        else pure (some true)) R E s := by
  have few : ∀ m, m ≤ n → m ≤ sizeLine := fun m hm => fits_of_scanBound (Nat.lt_of_le_of_lt hm hn)
  refine wpAny_bind (wpAny_storeSet_of ho hd ?_ (few _ q.few))
  have o1 := L2.store_at (es' := es) (t' := t) ho hd
  have b1 := Heap.SameBut.update s.heap a (Obj.putSet es t)
  split
  · have z1 := relayAll_perm t es (SetTable.grown es.size)
    have q2 : QTab knd S n (relayAll t es (SetTable.grown es.size)).1 (relayAll t es (SetTable.grown es.size)).2.1 := q.perm z1 (relayAll_fits t es _) (L2.relayAll_ris t es _) (L2.relayAll_led t es _)
    generalize relayAll t es (SetTable.grown es.size) = Z at q2 ⊢
    obtain ⟨es2, t2, gave⟩ := Z
    refine wpAny_bind (hg _ _ _ (wpAny_bind (wpAny_storeSet_of o1 rfl ?_ (few _ q2.few))))
    exact wpAny_pure (hR _ (b1.trans (Heap.SameBut.update _ a _)) ⟨_, es2, _, t2, L2.store_at (es' := es2) (t' := t2) o1 rfl, hex, rfl, q2⟩)
  · exact wpAny_pure (hR _ b1 ⟨_, es, _, t, o1, hex, rfl, q⟩)
theorem setQ_hashed {k : K} {x : Value} {Q : Bool → Shared → Prop} (hx : knd.is k x = true) (hsc : x.scannable = true) (R : SetQ knd s.heap a S n) (hn : n + 1 < scanBound)
    (hQ : ∀ (h' : Heap) (b : Bool), Heap.SameBut a s.heap h' → SetQ knd h' a (fun j => S j || decide (j = k)) (n + 1) → Q b { s with heap := h' }) : wpAny (model P w) A (setAddHashed a x (knd.hash k)) Q E s := by
  obtain ⟨o, es, ep, t, ho, hex, hd, q⟩ := R
  have hb : es.size < scanBound := Nat.lt_of_le_of_lt q.few (Nat.lt_of_succ_lt hn)
  unfold setAddHashed setAddHashedIn
  refine wpAny_holding (wpAny_bind (wpAny_setState_of ho hd q.fit ?_))
  dsimp only
  rw [byScan_of hsc hb q.el]
  simp only [↓reduceIte]
  unfold setAddByScan
  refine wpAny_bind (wpAny_bind (wpAny_rule (wpAny_bind (wpAny_setScan_of hx ho hd q.fit q.el ?_))))
  cases hfi : List.findIdx? (fun e => knd.is k e.2) es.toList with
  | some j =>
    obtain ⟨hj, pj, _⟩ := List.findIdx?_eq_some_iff_getElem.mp hfi
    refine wpAny_pure (wpAny_pure (hQ s.heap false (Heap.SameBut.refl a s.heap) ⟨o, es, ep, t, ho, hex, hd, ⟨q.el, fun i => ?_, q.pw, Nat.le_succ_of_le q.few, q.fit, q.ris, q.led⟩⟩))
    rw [← q.mem i, Bool.or_eq_true, decide_eq_true_eq]
    refine ⟨fun z => z.elim id fun e => ?_, .inl⟩
    rw [e]
    exact (q.mem k).mpr ⟨_, List.getElem_mem hj, pj⟩
  | none =>
    have fresh : ∀ e ∈ es.toList, knd.is k e.2 = false := fun e he => by
      have z := List.findIdx?_eq_none_iff.mp hfi e he
      simpa using z
    have gw : ∀ (b : Bool) (u : Shared) (Q' : Unit → Shared → Prop), Q' () u → wpAny (model P w) A (match b with | true => rule "set.scan.the-table-gave-way" | false => pure ()) Q' E u := fun b u Q' z => by cases b <;> first | exact wpAny_pure z | exact wpAny_rule z
    dsimp only
    have p0 := layNew_perm t es (knd.hash k) x
    have p1 := layNew_fits t es (knd.hash k) x
    have p2 := L2.layNew_ris t es (knd.hash k) x q.ris
    have p3 := L2.layNew_led t es (knd.hash k) x
    generalize layNew t es (knd.hash k) x = Z at p0 p1 p2 p3 ⊢
    obtain ⟨es1, t1, dummy, gave⟩ := Z
    dsimp only at p0 p1 p2 p3 ⊢
    rw [Array.toList_push] at p0
    have pc : es1.toList.Perm ((knd.hash k, x) :: es.toList) := p0.trans (List.perm_append_singleton _ _)
    have q1 : ∀ t', t'.fits es1.size = true → t'.place = t1.place → t'.led = t1.led → QTab knd (fun j => S j || decide (j = k)) (n + 1) es1 t' := fun t' f1 f2 f3 => by
      refine ⟨fun e he => ?_, fun i => ?_, ?_, ?_, f1, by rw [f2]; exact p2, q.led.imp id fun z => by rw [f3, p3]; exact z⟩
      · rcases List.mem_cons.mp (pc.mem_iff.mp he) with z | z
        · rw [z]; exact ⟨⟨k, hx, rfl⟩, hsc⟩
        · exact q.el e z
      · rw [Bool.or_eq_true, decide_eq_true_eq, q.mem i]
        constructor
        · rintro (⟨e, he, z⟩ | z)
          · exact ⟨e, pc.mem_iff.mpr (List.mem_cons_of_mem _ he), z⟩
          · exact ⟨_, pc.mem_iff.mpr List.mem_cons_self, by rw [z]; exact hx⟩
        · rintro ⟨e, he, z⟩
          rcases List.mem_cons.mp (pc.mem_iff.mp he) with y | y
          · rw [y] at z; exact .inr (knd.inj x i k z hx)
          · exact .inl ⟨e, y, z⟩
      · refine (pc.pairwise_iff (R := fun x y : Int × Value => ∀ k, knd.is k x.2 = true → knd.is k y.2 = true → False) fun hxy j hy hx' => hxy j hx' hy).mpr (.cons (fun e he j z1 z2 => ?_) q.pw)
        have ej := knd.inj x j k z1 hx
        rw [ej, fresh e he] at z2
        cases z2
      · have z : es1.size = es.size + 1 := by rw [← Array.length_toList, pc.length_eq, List.length_cons, Array.length_toList]
        have := q.few
        omega
    refine wpAny_bind (gw _ _ _ ?_)
    split
    · refine wpAny_bind ?_
      rw [hashByValue_scannable 8 hsc]
      refine wpAny_pure (store_tail gw ho hex hd (q1 _ ?_ ?_ ?_) hn fun h' sb r => ?_)
      · first | (split <;> first | exact p1 | exact SetTable.fits_plain_off p1) | exact p1
      · first | (split <;> rfl) | rfl
      · first | (split <;> rfl) | rfl
      · exact wpAny_pure (hQ h' true sb r)
    · refine wpAny_bind (wpAny_pure ?_)
      simp only [↓reduceIte]
      exact store_tail gw ho hex hd (q1 _ p1 rfl rfl) hn fun h' sb r => wpAny_pure (hQ h' true sb r)
theorem adds_scan {A : Around} {items : Array Value} {ks : List K} (hl : items.size = ks.length) (hi : ∀ (i : Nat) (x : Value), items[i]? = some x → ∃ k, ks[i]? = some k ∧ knd.is k x = true ∧ x.scannable = true) (hb : ks.length + 1 < scanBound) {Z : Addr} :
    AddsAt P w A Z items (fun i h => SetQ knd h Z (fun k => decide (k ∈ ks.take i)) i) := by
  intro B D u i v Q hu hv j q
  obtain ⟨k, hk, z1, z2⟩ := hi i v hv
  have hlt : i < ks.length := (List.getElem?_eq_some_iff.mp hk).1
  unfold setAdd
  refine wpAny_holding (wpAny_bind (knd.pyHash z1 (setQ_hashed (s := { u with toks := u.toks + 1 }) z1 z2 j (by omega) fun h' b sb r => q h' (u.toks + 1) (Nat.le_succ _) sb ?_)))
  have e : (fun j => decide (j ∈ ks.take i) || decide (j = k)) = fun j => decide (j ∈ ks.take (i + 1)) := by
    funext j
    rw [List.take_add_one, hk]
    simp [List.mem_append]
  rw [e] at r
  exact r
/-! sorted(a set) -/
def ApV (knd : KeyKind P w K) (x y : Value) : Prop := ∀ k, knd.is k x = true → knd.is k y = true → False
theorem keys_of : ∀ (vs : List Value), (∀ v ∈ vs, ∃ k, knd.is k v = true) → vs.Pairwise (ApV knd) → ∃ bs : List K, EachIs (fun v k => knd.is k v = true) vs bs ∧ bs.Nodup ∧ ∀ k, k ∈ bs ↔ ∃ v ∈ vs, knd.is k v = true
  | [], _, _ => ⟨[], .nil, .nil, fun k => by simp⟩
  | v :: vs, h, p => by
    obtain ⟨k, hk⟩ := h v List.mem_cons_self
    obtain ⟨bs, e, nd, m⟩ := keys_of vs (fun u hu => h u (List.mem_cons_of_mem _ hu)) (List.pairwise_cons.mp p).2
    refine ⟨k :: bs, .cons hk e, List.nodup_cons.mpr ⟨fun z => ?_, nd⟩, fun j => ?_⟩
    · obtain ⟨u, hu, z⟩ := (m k).mp z
      exact (List.pairwise_cons.mp p).1 u hu k hk z
    · rw [List.mem_cons, m j]
      constructor
      · rintro (z | ⟨u, hu, z⟩)
        · exact ⟨v, List.mem_cons_self, by rw [z]; exact hk⟩
        · exact ⟨u, List.mem_cons_of_mem _ hu, z⟩
      · rintro ⟨u, hu, z⟩
        rcases List.mem_cons.mp hu with y | y
        · rw [y] at z; exact .inl (knd.inj v j k z hk)
        · exact .inr ⟨u, y, z⟩
/-- what the members are as data -/
structure KEnc (knd : KeyKind P w K) (enc : K → PyData) : Prop where
  rd : ∀ (h : Heap) (k : K) (v : Value), knd.is k v = true → Reads h v (enc k) []
  al : ∀ k k', alike (enc k) (enc k') = true
  so : ∀ k, enc k ≠ .none ∧ ∀ xs, enc k ≠ .tuple xs
  dp : ∀ k, (enc k).depth = 0
theorem sorted_setQ {enc : K → PyData} (ke : KEnc knd enc) {Q : Value → Shared → Prop} (R : SetQ knd s.heap a S n) (hh : A.handled = none) (hn : n < scanBound) (hu : A.units + 3 < cLine)
    (hQ : ∀ (s' : Shared) (p : Addr) (bs : List K) (out : List Value) (c : Nat), (∀ b o, s.heap.get? b = some o → s'.heap.get? b = some o) → s'.gens = s.gens → s'.os = s.os → s.heap.objs.size ≤ p → s'.heap.get? p = some (seqObj "list" out.toArray c) →
      EachIs (fun v k => knd.is k v = true) out (bs.mergeSort (dataLe false enc)) → bs.Nodup → (∀ k, k ∈ bs ↔ S k = true) → bs.length ≤ n → Q (.ref p) s') :
    wpAny (model P w) A (call (.builtin "sorted") [.ref a]) Q E s := by
  obtain ⟨o, es, ep, t, ho, hex, hd, q⟩ := R
  refine Calls.call_function_entry kind_sorted plain_sorted entry_sorted (args_sorted1 _) ?_
  unfold Builtin.«sorted»
  refine wpAny_bind (m := checkCount "sorted" 1 1 _) (wpAny_pure ?_)
  refine wpAny_bind (L2.collect_set (A := A.in1) hh ⟨o, ho, hex.1, hd⟩ q.fit (Nat.lt_of_le_of_lt q.few hn) q.ris q.led fun s1 vs k1 hz g1 o1 pm => ?_)
  have pv : vs.Pairwise (ApV knd) := by
    refine (pm.pairwise_iff (R := ApV knd) fun hxy k hy hx => hxy k hx hy).mpr ?_
    exact List.pairwise_map.mpr q.pw
  have hv : ∀ v ∈ vs, ∃ k, knd.is k v = true := fun v h => by
    obtain ⟨e, he, z⟩ := List.mem_map.mp (pm.mem_iff.mp h)
    obtain ⟨⟨k, hk, _⟩, _⟩ := q.el e he
    exact ⟨k, by rw [← z]; exact hk⟩
  obtain ⟨bs, eb, nd, mb⟩ := keys_of vs hv pv
  have bl : bs.length = vs.length := (eb.length).symm
  have vl : vs.length ≤ n := by rw [pm.length_eq, List.length_map, Array.length_toList]; exact q.few
  have few : n ≤ sizeLine := fits_of_scanBound hn
  refine wpAny_bind (wpAny_newList ?_ (by omega))
  have oL : (s1.heap.push (seqObj "list" vs.toArray 0)).get? s1.heap.objs.size = some (seqObj "list" vs.toArray 0) := Heap.get?_push_size _ rfl
  refine wpAny_bind (wpAny_holding (PySem.W.list_sort_data (s := { s1 with heap := s1.heap.push (seqObj "list" vs.toArray 0) }) (enc := enc) oL eb (eb.mono fun v k h => ⟨[], ke.rd _ k v h, by simp⟩) ?_ ?_ (by omega) (fun b _ => ?_) fun out lo eo => ?_))
  · exact PySem.W.AllAlike.of ke.al
  · exact PySem.W.Sortable.others ke.so
  · rw [ke.dp]; show A.units + 1 + 1 + 0 < cLine; omega
  · obtain ⟨c, hc⟩ := PyProof.Rows.sortedHeap_at (vs := vs) (out := out.toArray) oL
    refine wpAny_pure ⟨_, rfl, hQ _ s1.heap.objs.size bs out c (fun b u e => ?_) g1 o1 hz hc eo nd (fun k => ?_) (by omega)⟩
    · have y := k1 b u e
      have lt := Heap.lt_size y
      show (sortedHeap (s1.heap.push (seqObj "list" vs.toArray 0)) s1.heap.objs.size vs out.toArray).get? b = some u
      rw [sortedHeap_old (Nat.ne_of_lt lt) (by rw [size_push']; exact Nat.lt_succ_of_lt lt)]
      exact Heap.get?_push_of_some _ y
    · rw [mb, q.mem]
      constructor
      · rintro ⟨v, h, z⟩
        obtain ⟨e, he, y⟩ := List.mem_map.mp (pm.mem_iff.mp h)
        exact ⟨e, he, by rw [y]; exact z⟩
      · rintro ⟨e, he, z⟩
        exact ⟨e.2, pm.mem_iff.mpr (List.mem_map.mpr ⟨e, he, rfl⟩), z⟩
end
end L3

namespace L3
open PySem PySem.Spec PyProof.Rows L2
open PySem.W (alike alikeAll AllAlike Sortable dataLe EachIs)
/-! ### sorted(set(xs)) -/
theorem intK_enc (P : Program) (w : World) : KEnc (intKind P w) (fun k : Int => PyData.int k) :=
  ⟨fun h k v hk => PyProof.V.reads_key_int k v hk, fun k k' => rfl, fun k => ⟨(by intro z; cases z), fun _ z => (by cases z)⟩, fun k => rfl⟩
theorem strK_enc (P : Program) (w : World) : KEnc (PySem.strKind P w) (fun k : Str => PyData.str k) :=
  ⟨fun h k v hk => PyProof.V.reads_key_str k v hk, fun k k' => rfl, fun k => ⟨(by intro z; cases z), fun _ z => (by cases z)⟩, fun k => rfl⟩
/-- how the members stand as values -/
structure KVal {P : Program} {w : World} {K : Type} [DecidableEq K] (knd : KeyKind P w K) (ev : K → V) : Prop where
  out : ∀ (k : K) (v : Value), knd.is k v = true → RelV (ev k) v
  is : ∀ (k : K) (v : Value), RelV (ev k) v → knd.is k v = true ∧ v.scannable = true
theorem intK_val (P : Program) (w : World) : KVal (intKind P w) V.int := ⟨fun k v h => by
  obtain ⟨t, rfl⟩ := Value.isInt_shape h
  exact ⟨t, rfl⟩, fun k v h => by
  obtain ⟨t, rfl⟩ := h
  exact ⟨intKind_is P w k t, rfl⟩⟩
theorem strK_val (P : Program) (w : World) : KVal (PySem.strKind P w) V.str := ⟨fun k v h => by
  cases v <;> first | (simp [PySem.strKind, Value.isStrOf] at h; done) | skip
  simp [PySem.strKind, Value.isStrOf] at h
  exact ⟨_, by rw [h]⟩, fun k v h => by
  obtain ⟨t, rfl⟩ := h
  exact ⟨PySem.strKind_is P w k t, rfl⟩⟩
theorem vals_each {P : Program} {w : World} {K : Type} [DecidableEq K] {knd : KeyKind P w K} {ev : K → V} (kv : KVal knd ev) : ∀ {out : List Value} {bs : List K}, EachIs (fun v k => knd.is k v = true) out bs → Vals (bs.map ev) out
  | _, _, .nil => .nil
  | _, _, .cons h t => .cons (kv.out _ _ h) (vals_each kv t)
theorem vals_at {K : Type} {ev : K → V} : ∀ {ks : List K} {us : List Value}, Vals (ks.map ev) us → ∀ (i : Nat) (x : Value), us[i]? = some x → ∃ k, ks[i]? = some k ∧ RelV (ev k) x
  | [], _, .nil, i, x, e => by simp at e
  | k :: ks, _, .cons r t, 0, x, e => by
    simp at e
    subst e
    exact ⟨k, rfl, r⟩
  | k :: ks, _, .cons r t, i + 1, x, e => by
    obtain ⟨j, h1, h2⟩ := vals_at t i x (by simpa using e)
    exact ⟨j, by simpa using h1, h2⟩
section
variable {X : Cx} {K : Type} [DecidableEq K] {knd : KeyKind X.prog X.w K} {ev : K → V} {enc : K → PyData}
/-- set(xs) -/
theorem set_seq (kv : KVal knd ev) {pins : List (Addr × Obj)} {σ : L2.St} {H : Hp} {s : Shared} {Q : Value → Shared → Prop} (I : Inv X pins σ H s) (hc : X.calm = true) {l : Addr} (ks : List K) (hl : SqL X.K H l (ks.map ev) ∨ SqT X.K H l (ks.map ev)) (hb : ks.length + 1 < scanBound)
    (q : ∀ (h' : Heap) (tk : Nat) (a : Addr), SetQ knd h' a (fun k => decide (k ∈ ks)) ks.length → Inv X pins σ H { s with heap := h', toks := tk } → Q (.ref a) { s with heap := h', toks := tk }) :
    wpAny (model X.prog X.w) X.A (call (.type "set") [.ref l]) Q X.xe s := by
  have go : ∀ {T : String} {o it : Obj} {items : Array Value}, SrcAt X.prog X.w T l o it items → s.heap.get? l = some o → Vals (ks.map ev) items.toList → wpAny (model X.prog X.w) X.A (call (.type "set") [.ref l]) Q X.xe s := fun {T o it items} src ho r => by
    have sz : items.size = ks.length := by rw [← Array.length_toList, ← r.length, List.length_map]
    refine set_call (I.ok.hd hc) src ho (adds_scan (knd := knd) sz (fun i x e => ?_) hb) (fun i h h' j k => ?_) ?_ fun h' tk j k => ?_
    · obtain ⟨k, e1, e2⟩ := vals_at r i x (by rw [Array.getElem?_toList]; exact e)
      obtain ⟨e3, e4⟩ := kv.is _ _ e2
      exact ⟨k, e1, e3, e4⟩
    · exact SetQ.at j fun o e => k _ o (Nat.ne_of_lt (Nat.lt_succ_self _)) e
    · have z : SetQ knd (s.heap.push (newSetO X.w)) s.heap.objs.size (fun _ => false) 0 := SetQ.new (Heap.get?_push_size _ rfl)
      have e : (fun k : K => decide (k ∈ ks.take 0)) = fun _ => false := by funext k; simp
      rw [e]
      exact z
    · rw [sz] at j
      have e : (fun k : K => decide (k ∈ ks.take ks.length)) = fun k => decide (k ∈ ks) := by rw [List.take_length]
      rw [e] at j
      exact q h' tk _ j (I.kept k)
  rcases hl with hl | hl
  · obtain ⟨its, r, pl, hz⟩ := I.list hl
    obtain ⟨o, it, ho, src⟩ := src_list (P := X.prog) (w := X.w) pl.isList
    exact go src ho (by simpa using r)
  · obtain ⟨its, r, pl, hz⟩ := I.tuple hl
    obtain ⟨o, it, ho, src⟩ := src_tuple (P := X.prog) (w := X.w) pl
    exact go src ho (by simpa using r)
end
/-! as data -/
def itemsOf : PyData → Option (List PyData)
  | .list xs => some xs
  | .tuple xs => some xs
  | _ => none
/-- the members of a row once each, rising -/
def dd {K : Type} [DecidableEq K] : List K → List K
  | [] => []
  | k :: ks => if k ∈ ks then dd ks else k :: dd ks
theorem dd_mem {K : Type} [DecidableEq K] : ∀ (ks : List K) (k : K), k ∈ dd ks ↔ k ∈ ks
  | [], k => by simp [dd]
  | j :: ks, k => by
    unfold dd
    split
    · rename_i h
      rw [dd_mem ks k, List.mem_cons]
      exact ⟨.inr, fun z => z.elim (fun e => e ▸ h) id⟩
    · rw [List.mem_cons, List.mem_cons, dd_mem ks k]
theorem dd_nodup {K : Type} [DecidableEq K] : ∀ (ks : List K), (dd ks).Nodup
  | [] => .nil
  | j :: ks => by
    unfold dd
    split
    · exact dd_nodup ks
    · rename_i h
      exact List.nodup_cons.mpr ⟨fun z => h ((dd_mem ks j).mp z), dd_nodup ks⟩
theorem dd_perm {K : Type} [DecidableEq K] {bs ks : List K} (nd : bs.Nodup) (m : ∀ k, k ∈ bs ↔ k ∈ ks) : bs.Perm (dd ks) :=
  (List.perm_ext_iff_of_nodup nd (dd_nodup ks)).mpr fun k => (m k).trans (dd_mem ks k).symm
def uqI (ns : List Int) : List Int := (dd ns).mergeSort fun a b => decide (a ≤ b)
def uqS (xs : List Str) : List Str := sortS (dd xs)
def sortSetD (d : PyData) : R PyData := (opt (itemsOf d)).bind fun xs => match intsOf xs with
  | some ns => if ns.length ≤ 4000 then .ok (.list ((uqI ns).map .int)) else .bad
  | none => (opt (strsOf xs)).bind fun ys => if ys.length ≤ 4000 then .ok (.list ((uqS ys).map .str)) else .bad
theorem sortI_pw (ns : List Int) : (ns.mergeSort fun a b => decide (a ≤ b)).Pairwise fun a b => decide (a ≤ b) = true := List.pairwise_mergeSort (fun a b c h1 h2 => by
    rw [decide_eq_true_eq] at *; omega) (fun a b => by rw [Bool.or_eq_true, decide_eq_true_eq, decide_eq_true_eq]; omega) ns
theorem sortI_eq {bs ks : List Int} (nd : bs.Nodup) (m : ∀ k, k ∈ bs ↔ k ∈ ks) : bs.mergeSort (dataLe false fun k : Int => PyData.int k) = uqI ks := by
  rw [PySem.W.dataLe_int (fun k : Int => k)]
  exact List.Perm.eq_of_pairwise (fun a b _ _ h1 h2 => by rw [decide_eq_true_eq] at h1 h2; omega) (sortI_pw bs) (sortI_pw _) ((List.mergeSort_perm _ _).trans ((dd_perm nd m).trans (List.mergeSort_perm _ _).symm))
theorem sortS_eq' {bs ks : List Str} (nd : bs.Nodup) (m : ∀ k, k ∈ bs ↔ k ∈ ks) : bs.mergeSort (dataLe false fun k : Str => PyData.str k) = uqS ks := by
  refine sortS_eq ((List.mergeSort_perm _ _).trans (dd_perm nd m)) ?_
  rw [PySem.W.dataLe_str (fun k : Str => k)]
  refine (List.pairwise_mergeSort (fun a b c h1 h2 => ?_) (fun a b => ?_) bs).imp fun {a b} h => ?_
  · rw [decide_eq_true_eq] at *; exact List.le_trans h1 h2
  · rw [Bool.or_eq_true, decide_eq_true_eq, decide_eq_true_eq]; exact List.le_total _ _
  · rw [decide_eq_true_eq] at h; exact (leS_iff a b).mpr h
/-- what is rising already, with the same members -/
theorem uqI_eq {L ks : List Int} (h : L.Pairwise (· < ·)) (m : ∀ k, k ∈ L ↔ k ∈ ks) : uqI ks = L := by
  have nd : L.Nodup := h.imp fun {a b} z e => by omega
  exact List.Perm.eq_of_pairwise (fun a b _ _ h1 h2 => by rw [decide_eq_true_eq] at h1 h2; omega) (sortI_pw _) (h.imp fun {a b} z => by rw [decide_eq_true_eq]; omega) ((List.mergeSort_perm _ _).trans (dd_perm nd m).symm)
theorem uqS_eq {L ks : List Str} (nd : L.Nodup) (h : L.Pairwise fun a b => leS a b = true) (m : ∀ k, k ∈ L ↔ k ∈ ks) : uqS ks = L := (sortS_eq (dd_perm nd m) h).symm
section
variable {X : Cx} {W : WX} {a : Expr} {f : Ev → R PyData} {p p2 q pos : Pos}
def tSS (K' : PySem.W.Frag) (ta : TE) : TE := fun σ H Q => ta σ H fun x H1 => ∃ (l : Addr), x = .ref l ∧
  ((∃ ns : List Int, (SqL K' H1 l (ns.map V.int) ∨ SqT K' H1 l (ns.map V.int)) ∧ ns.length ≤ 4000 ∧ ∀ p : Addr, H1 p = none → Q (.ref p) (upd H1 p (.lst ((uqI ns).map V.int)))) ∨
   (∃ ns : List Str, (SqL K' H1 l (ns.map V.str) ∨ SqT K' H1 l (ns.map V.str)) ∧ ns.length ≤ 4000 ∧ ∀ p : Addr, H1 p = none → Q (.ref p) (upd H1 p (.lst ((uqS ns).map V.str)))))
theorem pe_sortSet {k : Nat} {ta : TE} (hr : Room k X.A) (hg : Gl X "sorted") (hm : X.mg "sorted" = none) (hg2 : Gl X "set") (hm2 : X.mg "set" = none) (ha : PE X a ta) (hc : X.calm = true)
    (na : starEach [a] X.env = (false, eval a X.env) :: starEach [] X.env) : PE X (.Call (.Name "sorted" p) [.Call (.Name "set" p2) [a] [] q] [] pos) (tSS X.K ta) := by
  constructor
  intro pins s σ H Q I h
  refine Call_ (ld_blt I hg hm boot_sorted ?_)
  refine PyProof.Rows.callWith_builtin1 (PyProof.Rows.args_cons ?_ rfl) rfl rfl
  refine Call_ (ld_blt I hg2 hm2 boot_set ?_)
  refine PyProof.Rows.callWith_type1 (PyProof.Rows.args_cons (thn (ha.run pins s σ H _ I h) fun v s1 h1 => PyProof.Rows.args_nil ?_) na) na rfl
  obtain ⟨x, H1, I1, r1, l, rfl, h1⟩ := h1
  cases r1
  have un := hr.un
  have go : ∀ {K : Type} [DecidableEq K] {knd : KeyKind X.prog X.w K} {ev : K → V} {enc : K → PyData} (kv : KVal knd ev) (ke : KEnc knd enc) (uq : List K → List K) (huq : ∀ bs ks : List K, bs.Nodup → (∀ k, k ∈ bs ↔ k ∈ ks) → bs.mergeSort (dataLe false enc) = uq ks) (ks : List K), (SqL X.K H1 l (ks.map ev) ∨ SqT X.K H1 l (ks.map ev)) → ks.length ≤ 4000 → (∀ p : Addr, H1 p = none → Q (.ref p) (upd H1 p (.lst ((uq ks).map ev)))) →
      ∀ (h' : Heap) (tk : Nat) (b : Addr), SetQ knd h' b (fun k => decide (k ∈ ks)) ks.length → Inv X pins σ H1 { s1 with heap := h', toks := tk } → wpAny (model X.prog X.w) X.A (call (.builtin "sorted") [.ref b]) (EP X pins σ Q) X.xe { s1 with heap := h', toks := tk } := fun {K} _ {knd ev enc} kv ke uq huq ks hq hb q1 h' tk b R I2 => by
    refine sorted_setQ (s := { s1 with heap := h', toks := tk }) ke R (I2.ok.hd hc) (by unfold scanBound; omega) (by omega) fun s' p bs out c k2 g2 o2 hp ho eo nd mb bl => ?_
    have hv := vals_each kv eo
    have eu := huq bs ks nd fun k => (mb k).trans (by rw [decide_eq_true_eq])
    have hlen : ((bs.mergeSort (dataLe false enc)).map ev).length ≤ sizeLine := by rw [List.length_map, List.length_mergeSort, sizeLine_eq]; omega
    rw [eu] at hv hlen
    have hn : H1 p = none := I2.hok.fresh hp
    have J : Inv X pins σ (upd H1 p (.lst ((uq ks).map ev))) s' := I2.call' (ch := []) o2 (Un.laid k2 hp hn) (I2.hok.laid k2 hp ⟨hlen, out, c, hv, ho⟩) (by rw [g2]; exact I2.bare) (fun _ z => nomatch z)
    exact ⟨.ref p, _, J, rfl, q1 p hn⟩
  rcases h1 with ⟨ks, hq, hb, q1⟩ | ⟨ks, hq, hb, q1⟩
  · exact set_seq (intK_val _ _) I1 hc ks hq (by unfold scanBound; omega) fun h' tk b R I2 => PyProof.Rows.args_nil (go (intK_val _ _) (intK_enc _ _) uqI (fun bs ks nd m => sortI_eq nd m) ks hq hb q1 h' tk b R I2)
  · exact set_seq (strK_val _ _) I1 hc ks hq (by unfold scanBound; omega) fun h' tk b R I2 => PyProof.Rows.args_nil (go (strK_val _ _) (strK_enc _ _) uqS (fun bs ks nd m => sortS_eq' nd m) ks hq hb q1 h' tk b R I2)
theorem dqa_ints {F : Hp} : ∀ ns : List Int, DqA F (ns.map V.int) (ns.map .int)
  | [] => .nil
  | k :: ks => .cons (.int k) (dqa_ints ks)
theorem Dq.items {F H : Hp} {K' : PySem.W.Frag} {v : V} {d : PyData} {xs : List PyData} (fh : Same F H) (q : Dq F v d) (e : itemsOf d = some xs) : ∃ (l : Addr) (vs : List V), v = .ref l ∧ (SqL K' H l vs ∨ SqT K' H l vs) ∧ DqA F vs xs := by
  cases q with
  | lst h1 h2 => cases e; exact ⟨_, _, rfl, .inl (.inl (.inl (fh _ _ h1))), h2⟩
  | tup h1 h2 => cases e; exact ⟨_, _, rfl, .inr (.inl (.inl (fh _ _ h1))), h2⟩
  | _ => cases e
theorem de_sortSet {k : Nat} (hr : Room k X.A) (hc : X.calm = true) (hm : X.mg "sorted" = none) (hm2 : X.mg "set" = none) (ha : DE X W a f) (hg : Gl X "sorted" := by rfl) (hg2 : Gl X "set" := by rfl) (na : starEach [a] X.env = (false, eval a X.env) :: starEach [] X.env := by rfl) :
    DE X W (.Call (.Name "sorted" p) [.Call (.Name "set" p2) [a] [] q] [] pos) (d1 sortSetD f) := pre_E (pe_sortSet hr hg hm hg2 hm2 ha hc na) fun σ H Q ⟨H0, F, env, rl, pp⟩ => by
  refine ⟨H0, F, env, rl, (Post.bind pp).mono (fun d p1 v F1 H1 g1 q => ?_) fun c p1 => p1⟩
  have p1 := Post.bind (show Post ((opt (itemsOf d)).bind _) _ _ from p1)
  cases e : itemsOf d with
  | none => rw [e] at p1; exact p1.elim
  | some xs =>
    rw [e] at p1
    obtain ⟨l, vs, rfl, hs, hd⟩ := q.items (K' := X.K) g1.fh e
    refine ⟨l, rfl, ?_⟩
    have p1 : Post (match intsOf xs with
      | some ns => if ns.length ≤ 4000 then .ok (.list ((uqI ns).map .int)) else .bad
      | none => (opt (strsOf xs)).bind fun ys => if ys.length ≤ 4000 then R.ok (PyData.list ((uqS ys).map .str)) else .bad) _ _ := p1
    cases e1 : intsOf xs with
    | some ns =>
      rw [e1] at p1
      rw [intsOf_eq e1] at hd
      rw [hd.ints] at hs
      have p1 : Post (if ns.length ≤ 4000 then R.ok (PyData.list ((uqI ns).map .int)) else .bad) _ _ := p1
      split at p1
      · rename_i hl
        exact .inl ⟨ns, hs, hl, fun p hp => p1 _ _ _ (g1.trans (Grow.new g1.fh hp)) (.lst upd_same (dqa_ints _))⟩
      · exact p1.elim
    | none =>
      rw [e1] at p1
      have p1 := Post.bind (show Post ((opt (strsOf xs)).bind _) _ _ from p1)
      cases e2 : strsOf xs with
      | none => rw [e2] at p1; exact p1.elim
      | some ys =>
        rw [e2] at p1
        rw [strsOf_eq e2] at hd
        rw [hd.strs] at hs
        have p1 : Post (if ys.length ≤ 4000 then R.ok (PyData.list ((uqS ys).map .str)) else .bad) _ _ := p1
        split at p1
        · rename_i hl
          exact .inr ⟨ys, hs, hl, fun p hp => p1 _ _ _ (g1.trans (Grow.new g1.fh hp)) (.lst upd_same (dqa_strs _))⟩
        · exact p1.elim
end
end L3

namespace L3
open PySem PySem.Spec PyProof.Rows L2
open PySem.W (alike alikeAll AllAlike Sortable dataLe EachIs)
/-! ### set(xs) != set(ys), both of the same members -/
theorem entry_set_ne : entryFor table "set.__ne__" = some Builtin.«frozenset.__ne__» :=
  entryFor_alias (id' := "frozenset.__ne__") (by kernel_rfl) rfl (by decide +kernel) (by kernel_rfl)
section
variable {P : Program} {w : World} {A : Around} {E : Value → Shared → Prop} {s : Shared} {K : Type} [DecidableEq K] {knd : KeyKind P w K} {a b : Addr} {S : K → Bool} {n m : Nat}
theorem QTab.setOf {es : Array (Int × Value)} {t : SetTable} {ep : Nat} {o : Obj} (q : QTab knd S n es t) (ho : s.heap.get? a = some o) (hex : o.ExactSet) (hd : o.data = .set es ep t) (hn : n < scanBound) : s.heap.SetOf knd a S es.size :=
  ⟨o, es, ep, t, ho, hex, hd, q.el, q.mem, Nat.lt_of_le_of_lt q.few hn, q.fit, rfl⟩
theorem QTab.size {es es' : Array (Int × Value)} {t t' : SetTable} (q : QTab knd S n es t) (q' : QTab knd S m es' t') : es.size = es'.size := by
  have key : ∀ {m : Nat} {es : Array (Int × Value)} {t : SetTable}, QTab knd S m es t → ∃ bs : List K, bs.length = es.size ∧ bs.Nodup ∧ ∀ k, k ∈ bs ↔ S k = true := fun {m es t} q => by
    obtain ⟨bs, e, nd, mb⟩ := keys_of (knd := knd) (es.toList.map (·.2)) (fun v hv => by
      obtain ⟨x, hx, rfl⟩ := List.mem_map.mp hv
      obtain ⟨⟨k, hk, _⟩, _⟩ := q.el x hx
      exact ⟨k, hk⟩) (List.pairwise_map.mpr (q.pw.imp fun {x y} h => (h : ApV knd x.2 y.2)))
    refine ⟨bs, by rw [← e.length, List.length_map, Array.length_toList], nd, fun k => ?_⟩
    rw [mb, q.mem]
    constructor
    · rintro ⟨v, hv, z⟩
      obtain ⟨x, hx, rfl⟩ := List.mem_map.mp hv
      exact ⟨x, hx, z⟩
    · rintro ⟨x, hx, z⟩
      exact ⟨x.2, List.mem_map.mpr ⟨x, hx, rfl⟩, z⟩
  obtain ⟨bs, l1, n1, m1⟩ := key q
  obtain ⟨cs, l2, n2, m2⟩ := key q'
  rw [← l1, ← l2]
  exact ((List.perm_ext_iff_of_nodup n1 n2).mpr fun k => (m1 k).trans (m2 k).symm).length_eq
theorem forIn_go {α β : Type} {M : Model} {f : α → β → Sem (ForInStep β)} (b : β) : ∀ (l : List α) (Q : β → Shared → Prop), (∀ x ∈ l, ∀ Q' : ForInStep β → Shared → Prop, Q' (.yield b) s → wpAny M A (f x b) Q' E s) → Q b s → wpAny M A (forIn l b f) Q E s
  | [], Q, _, q => by
    rw [List.forIn_nil]
    exact wpAny_pure q
  | x :: l, Q, h, q => by
    rw [List.forIn_cons]
    exact wpAny_bind (h x List.mem_cons_self _ (forIn_go b l Q (fun y hy => h y (List.mem_cons_of_mem _ hy)) q))
theorem set_ne_same (R : SetQ knd s.heap a S n) (R' : SetQ knd s.heap b S m) (hn : n < scanBound) (hm : m < scanBound) (hu : A.units < cLine) (quiet : ∀ (k : K) (v : Value), knd.is k v = true → Builtin.Frozenset.quietEq v = pure true) {Q : Value → Shared → Prop} (q : Q (.bool false) s) :
    wpAny (model P w) A (compareOp .NotEq (.ref a) (.ref b)) Q E s := by
  obtain ⟨o, es, ep, t, ho, hex, hd, qt⟩ := R
  obtain ⟨o', es', ep', t', ho', hex', hd', qt'⟩ := R'
  have sz := qt.size qt'
  have ta : s.TypeIs (.ref a) "set" := ⟨o, ho, hex.1⟩
  have tb : s.TypeIs (.ref b) "set" := ⟨o', ho', hex'.1⟩
  show wpAny _ _ (richCompare .NotEq (.ref a) (.ref b)) _ _ _
  refine wpAny_richCompare_same_room ta tb PySem.F.slot_set_ne (wpAny_call_entry PySem.F.slot_set_ne ta entry_set_ne ?_ (PySem.F.args_set_ne_2 _ _)) hu
  unfold Builtin.«frozenset.__ne__»
  refine wpAny_bind (m := Builtin.Frozenset.slot1 "__ne__" _) ?_
  have e1 := sub_set_self
  have e2 := PySem.F.sub_set_frozenset
  unfold Builtin.Frozenset.slot1 slotArgs
  simp only [List.isEmpty_nil, Bool.not_true, Bool.false_eq_true, ↓reduceIte, bind_assoc, List.length_cons, List.length_nil, bne_self_eq_false]
  refine wpAny_bind (wpAny_pure (wpAny_pure ?_))
  dsimp only
  unfold Builtin.Frozenset.isAnySet
  refine wpAny_bind (wpAny_bind (wpAny_isInstance (b := true) tb e1 ?_))
  refine wpAny_pure ?_
  rw [if_neg (by decide)]
  unfold Builtin.Frozenset.addrOf
  refine wpAny_bind (wpAny_pure (wpAny_bind (wpAny_pure ?_)))
  unfold Builtin.Frozenset.sizeOf
  refine wpAny_bind (wpAny_bind (wpAny_setEntries_of ho hd qt.fit (wpAny_pure ?_)))
  refine wpAny_bind (wpAny_bind (wpAny_setEntries_of ho' hd' qt'.fit (wpAny_pure ?_)))
  rw [sz]
  rw [if_neg (by simp)]
  refine wpAny_bind (wpAny_bind (wpAny_bind (wpAny_isInstance (b := false) ta e2 ?_)))
  refine wpAny_pure ?_
  rw [if_neg (by decide)]
  unfold Builtin.Frozenset.subsetOf Builtin.Frozenset.sizeOf
  refine wpAny_bind (wpAny_bind (wpAny_setEntries_of ho hd qt.fit (wpAny_pure ?_)))
  refine wpAny_bind (wpAny_bind (wpAny_setEntries_of ho' hd' qt'.fit (wpAny_pure ?_)))
  rw [if_neg (by rw [sz]; exact Nat.lt_irrefl _)]
  refine wpAny_bind (wpAny_setEpoch_of ho hd qt.fit ?_)
  refine wpAny_bind (m := Builtin.Frozenset.walkUnseen a b) ?_
  unfold Builtin.Frozenset.walkUnseen
  refine wpAny_bind (wpAny_setEntries_of ho hd qt.fit ?_)
  refine wpAny_bind (wpAny_setEntries_of ho' hd' qt'.fit ?_)
  refine wpAny_bind (forIn_go _ _ _ (fun x hx Q' q' => ?_) (wpAny_pure ?_))
  · have hk : ∃ k, knd.is k x.2 = true := (List.mem_append.mp hx).elim (fun z => ElemsOf.keys qt.el x z) fun z => ElemsOf.keys qt'.el x z
    obtain ⟨k, hk⟩ := hk
    obtain ⟨x1, x2⟩ := x
    exact wpAny_bind (wpAny_of_eq (quiet k x2 hk) (wpAny_pure q'))
  · refine wpAny_bind (forIn_go _ _ _ (fun x hx Q' q' => ?_) (wpAny_pure (wpAny_pure ⟨_, rfl, (by simp), q⟩)))
    obtain ⟨⟨k, hk, hh⟩, sc⟩ := qt.el x hx
    obtain ⟨x1, x2⟩ := x
    have hh : x1 = knd.hash k := hh
    subst hh
    have hS : S k = true := (qt.mem k).mpr ⟨_, hx, hk⟩
    refine wpAny_bind (wpAny_holding (wpAny_setFind_of hk sc (qt'.setOf ho' hex' hd' hm) fun r hr => ?_))
    rw [hS] at hr
    rw [if_neg (by cases r <;> simp at hr ⊢)]
    unfold Builtin.Frozenset.unchanged
    refine wpAny_bind (wpAny_bind (wpAny_setEpoch_of ho hd qt.fit ?_))
    rw [if_neg (by simp)]
    exact wpAny_pure (wpAny_pure q')
end
/-- the set of keys at a -/
def SetQO {P : Program} {w : World} {K : Type} [DecidableEq K] (knd : KeyKind P w K) (a : Addr) (S : K → Bool) (n : Nat) : HO := .ext fun h => SetQ knd h a S n
section
variable {X : Cx} {W : WX}
theorem setQO_new {P : Program} {w : World} {K : Type} [DecidableEq K] {knd : KeyKind P w K} {H : Hp} {h : Heap} {a : Addr} {S : K → Bool} {n : Nat} (R : SetQ knd h a S n) : ObjOk P w H h a (SetQO knd a S n) := by
  have ⟨o, _, _, _, ho, _⟩ := R
  exact ⟨R, ⟨o, ho⟩, fun h1 h2 p k => SetQ.at p k⟩
variable {a b : Expr} {ta tb : TE} {f g : Ev → R PyData} {p p2 q q2 pos : Pos}
abbrev stK (X : Cx) := PySem.strKind X.prog X.w
def tSetO (X : Cx) (ta : TE) : TE := fun σ H Q => ta σ H fun x H1 => ∃ (l : Addr) (ks : List Str), x = .ref l ∧ (SqL X.K H1 l (ks.map V.str) ∨ SqT X.K H1 l (ks.map V.str)) ∧ ks.length ≤ 4000 ∧ ∀ p : Addr, H1 p = none → Q (.ref p) (upd H1 p (SetQO (stK X) p (fun k => decide (k ∈ ks)) ks.length))
theorem pe_setO (hg2 : Gl X "set") (hm2 : X.mg "set" = none) (ha : PE X a ta) (hc : X.calm = true) (na : starEach [a] X.env = (false, eval a X.env) :: starEach [] X.env) : PE X (.Call (.Name "set" p2) [a] [] q) (tSetO X ta) := by
  constructor
  intro pins s σ H Q I h
  refine Call_ (ld_blt I hg2 hm2 boot_set ?_)
  refine PyProof.Rows.callWith_type1 (PyProof.Rows.args_cons (thn (ha.run pins s σ H _ I h) fun v s1 h1 => PyProof.Rows.args_nil ?_) na) na rfl
  obtain ⟨x, H1, I1, r1, l, ks, rfl, hl, hb, q1⟩ := h1
  cases r1
  have kv := strK_val X.prog X.w
  have go : ∀ {T : String} {o it : Obj} {items : Array Value}, SrcAt X.prog X.w T l o it items → s1.heap.get? l = some o → Vals (ks.map V.str) items.toList → wpAny (model X.prog X.w) X.A (call (.type "set") [.ref l]) (EP X pins σ Q) X.xe s1 := fun {T o it items} src ho r => by
    have sz : items.size = ks.length := by rw [← Array.length_toList, ← r.length, List.length_map]
    refine set_call (I1.ok.hd hc) src ho (adds_scan (knd := stK X) sz (fun i x e => ?_) (by unfold scanBound; omega)) (fun i h h' j k => ?_) ?_ fun h' tk j k => ?_
    · obtain ⟨k, e1, e2⟩ := vals_at r i x (by rw [Array.getElem?_toList]; exact e)
      obtain ⟨e3, e4⟩ := kv.is _ _ e2
      exact ⟨k, e1, e3, e4⟩
    · exact SetQ.at j fun o e => k _ o (Nat.ne_of_lt (Nat.lt_succ_self _)) e
    · have z : SetQ (stK X) (s1.heap.push (newSetO X.w)) s1.heap.objs.size (fun _ => false) 0 := SetQ.new (Heap.get?_push_size _ rfl)
      have e : (fun k : Str => decide (k ∈ ks.take 0)) = fun _ => false := by funext k; simp
      rw [e]
      exact z
    · rw [sz] at j
      have e : (fun k : Str => decide (k ∈ ks.take ks.length)) = fun k => decide (k ∈ ks) := by rw [List.take_length]
      rw [e] at j
      exact ⟨.ref _, upd H1 s1.heap.objs.size (SetQO (stK X) s1.heap.objs.size (fun k => decide (k ∈ ks)) ks.length), I1.laid (t' := tk) k (Nat.le_refl _) (setQO_new j), rfl, q1 _ (I1.hok.fresh (Nat.le_refl _))⟩
  rcases hl with hl | hl
  · obtain ⟨its, r, pl, hz⟩ := I1.list hl
    obtain ⟨o, it, ho, src⟩ := src_list (P := X.prog) (w := X.w) pl.isList
    exact go src ho (by simpa using r)
  · obtain ⟨its, r, pl, hz⟩ := I1.tuple hl
    obtain ⟨o, it, ho, src⟩ := src_tuple (P := X.prog) (w := X.w) pl
    exact go src ho (by simpa using r)
theorem quiet_str (P : Program) (w : World) (k : Str) (v : Value) (h : (PySem.strKind P w).is k v = true) : Builtin.Frozenset.quietEq v = pure true := by
  obtain ⟨t, rfl⟩ := (strK_val P w).out k v h
  rfl
def tSetNe (X : Cx) (ta tb : TE) : TT := fun σ H Q => tSetO X ta σ H fun x H1 => ∃ (p : Addr) (S : Str → Bool) (n : Nat), x = .ref p ∧ H1 p = some (SetQO (stK X) p S n) ∧ n ≤ 4000 ∧ tSetO X tb σ H1 fun y H2 => ∃ (p' : Addr) (m : Nat), y = .ref p' ∧ H2 p = some (SetQO (stK X) p S n) ∧ H2 p' = some (SetQO (stK X) p' S m) ∧ m ≤ 4000 ∧ Q false H2
theorem pt_setNe {k : Nat} (hr : Room k X.A) (hg2 : Gl X "set") (hm2 : X.mg "set" = none) (ha : PE X a ta) (hb : PE X b tb) (hc : X.calm = true) (na : starEach [a] X.env = (false, eval a X.env) :: starEach [] X.env) (nb : starEach [b] X.env = (false, eval b X.env) :: starEach [] X.env) (hmk : behindInMarks .NotEq (.Call (.Name "set" p) [b] [] q2) = false) :
    PT X (.Compare (.Call (.Name "set" p2) [a] [] q) [.NotEq] [.Call (.Name "set" p) [b] [] q2] pos) (tSetNe X ta tb) := by
  refine ⟨fun pins s σ H Q I h => ?_⟩
  have un := hr.un
  refine wpAny_isTrue_Compare1 (thn ((pe_setO hg2 hm2 ha hc na).run pins s σ H _ I h) fun v s1 ⟨x, H1, I1, r1, p, S, n, ex, e1, hn, q1⟩ => thn ((pe_setO hg2 hm2 hb hc nb).run pins s1 σ H1 _ I1 q1) fun u s2 ⟨y, H2, I2, r2, p', m, ey, e2, e3, hm, q2⟩ => ?_) hmk
  subst ex ey
  cases r1
  cases r2
  have R1 : SetQ (stK X) s2.heap p S n := (I2.hok p _ e2).1
  have R2 : SetQ (stK X) s2.heap p' S m := (I2.hok p' _ e3).1
  exact set_ne_same R1 R2 (by unfold scanBound; omega) (by unfold scanBound; omega) (by omega) (quiet_str _ _) (wpAny_truthy_bool ⟨H2, I2, q2⟩)
def strsL (d : PyData) : Option (List Str) := (itemsOf d).bind strsOf
def sameMem (xs ys : List Str) : Bool := decide ((∀ k ∈ xs, k ∈ ys) ∧ ∀ k ∈ ys, k ∈ xs)
def dSetNe (f g : Ev → R PyData) : Ev → R Bool := fun env => (f env).bind fun x => (opt (strsL x)).bind fun xs => if xs.length ≤ 4000 then (g env).bind fun y => (opt (strsL y)).bind fun ys => if ys.length ≤ 4000 ∧ sameMem xs ys = true then .ok false else .bad else .bad
theorem strsL_run {F1 H1 : Hp} {v : V} {d : PyData} {xs : List Str} (fh : Same F1 H1) (q : Dq F1 v d) (e : strsL d = some xs) : ∃ l : Addr, v = .ref l ∧ (SqL X.K H1 l (xs.map V.str) ∨ SqT X.K H1 l (xs.map V.str)) := by
  unfold strsL at e
  cases e1 : itemsOf d with
  | none => rw [e1] at e; cases e
  | some ds =>
    rw [e1] at e
    have e : strsOf ds = some xs := e
    obtain ⟨l, vs, rfl, hs, hd⟩ := q.items (K' := X.K) fh e1
    rw [strsOf_eq e] at hd
    rw [hd.strs] at hs
    exact ⟨l, rfl, hs⟩
theorem dt_setNe {k : Nat} (hr : Room k X.A) (hc : X.calm = true) (hm2 : X.mg "set" = none) (ha : DE X W a f) (hb : DE X W b g) (hg2 : Gl X "set" := by rfl) (na : starEach [a] X.env = (false, eval a X.env) :: starEach [] X.env := by rfl) (nb : starEach [b] X.env = (false, eval b X.env) :: starEach [] X.env := by rfl) (hmk : behindInMarks .NotEq (.Call (.Name "set" p) [b] [] q2) = false := by rfl) :
    DT X W (.Compare (.Call (.Name "set" p2) [a] [] q) [.NotEq] [.Call (.Name "set" p) [b] [] q2] pos) (dSetNe f g) := pre_T (pt_setNe hr hg2 hm2 ha hb hc na nb hmk) fun σ H Q ⟨H0, F, env, rl, pp⟩ => by
  refine ⟨H0, F, env, rl, (Post.bind pp).mono (fun x p1 v F1 H1 g1 q => ?_) fun c p1 => p1⟩
  have p1 := Post.bind p1
  cases e : strsL x with
  | none => rw [e] at p1; exact p1.elim
  | some xs =>
    rw [e] at p1
    have p1 : Post (if xs.length ≤ 4000 then (g env).bind fun y => (opt (strsL y)).bind fun ys => if ys.length ≤ 4000 ∧ sameMem xs ys = true then R.ok false else .bad else .bad) _ _ := p1
    obtain ⟨l, rfl, hs⟩ := strsL_run (X := X) g1.fh q e
    split at p1
    · rename_i hl
      refine ⟨l, xs, rfl, hs, hl, fun p hp => ⟨p, _, _, rfl, upd_same, hl, ?_⟩⟩
      have g2 : Grow F1 H1 F1 (upd H1 p (SetQO (stK X) p (fun k => decide (k ∈ xs)) xs.length)) := ⟨Same.refl _, same_upd (Same.refl H1) hp, g1.fh.trans (same_upd (Same.refl H1) hp), fun _ _ z => .inl z⟩
      refine ⟨H0, F1, env, (rl.grow g1).grow g2, (Post.bind p1).mono (fun y p2 v2 F2 H2 g3 q2 => ?_) fun c p2 F' H' z => p2 F' H' ((g1.trans g2).trans z)⟩
      have p2 := Post.bind p2
      cases e2 : strsL y with
      | none => rw [e2] at p2; exact p2.elim
      | some ys =>
        rw [e2] at p2
        have p2 : Post (if ys.length ≤ 4000 ∧ sameMem xs ys = true then R.ok false else .bad) _ _ := p2
        obtain ⟨l2, rfl, hs2⟩ := strsL_run (X := X) g3.fh q2 e2
        split at p2
        · rename_i hh
          have hsm := of_decide_eq_true hh.2
          refine ⟨l2, ys, rfl, hs2, hh.1, fun p' hp' => ⟨p', ys.length, rfl, ?_, ?_, hh.1, ?_⟩⟩
          · have z := g3.h p _ upd_same
            rw [upd_ne (fun e => by rw [e, hp'] at z; cases z)]
            exact z
          · rw [upd_same]
            have : (fun k : Str => decide (k ∈ ys)) = fun k => decide (k ∈ xs) := by
              funext k
              exact decide_eq_decide.mpr ⟨hsm.2 k, hsm.1 k⟩
            rw [this]
          · have g4 : Grow F2 H2 F2 (upd H2 p' (SetQO (stK X) p' (fun k => decide (k ∈ ys)) ys.length)) := ⟨Same.refl _, same_upd (Same.refl H2) hp', g3.fh.trans (same_upd (Same.refl H2) hp'), fun _ _ z => .inl z⟩
            exact p2 _ _ (((g1.trans g2).trans g3).trans g4)
        · exact p2.elim
    · exact p1.elim
end
end L3

namespace L3
open PySem PySem.Spec PyProof.Rows L2
section
variable {X : Cx} {W : WX} {es : List Expr} {vs : List Nat} {pos : Pos}
/-! a, b, c = a list -/
def gTl (n : Nat) (g : List PyData → Ev → R Ev) : PyData → Ev → R Ev := fun d env => match d with
  | .list ds => if ds.length = n then g ds env else .bad
  | _ => .bad
theorem gTl_noexc {n : Nat} {g : List PyData → Ev → R Ev} (h : ∀ (ds : List PyData) (env : Ev) (c : Str), g ds env ≠ .exc c) : ∀ (d : PyData) (env : Ev) (c : Str), gTl n g d env ≠ .exc c := fun d env c e => by
  unfold gTl at e
  split at e
  · split at e
    · exact h _ _ _ e
    · cases e
  · cases e
theorem dg_lst {k : Nat} {g : List PyData → Ev → R Ev} (n : Nat) (hc : X.calm = true) (h : DGs X vs es g) (hn : (assignEach es X.env).length = n := by rfl) (hst : (assignEach es X.env).findIdx? (·.1) = none := by rfl) : DG X vs (.Tuple es k pos) (gTl n g) :=
  pre_G (pg_lst hc h hn hst) fun v σ H Q ⟨H0, F, env, d, rl, q, p⟩ => by
  cases d <;> first | exact p.elim | skip
  rename_i ds
  cases q with
  | lst h q =>
    have p2 : Post (if ds.length = n then g ds env else .bad) _ _ := p
    split at p2
    · rename_i hl
      exact ⟨_, _, rfl, .inl (.inl (rl.fh _ _ h)), by rw [q.length]; exact hl, H0, F, env, ds, rl, q, p2⟩
    · exact p2.elim
end
/-! (i, x) > (j, y), texts behind numbers -/
def gtIS (i : Int) (x : Str) (j : Int) (y : Str) : Bool := if decide (i = j) = true then (if (x == y) = true then false else decide (y.cps.toList < x.cps.toList)) else decide (j < i)
def rGtP (K : PySem.W.Frag) : R2 := fun u v H Q => ∃ a b i x j y, u = .ref a ∧ v = .ref b ∧ SqT K H a [V.int i, V.str x] ∧ SqT K H b [V.int j, V.str y] ∧ Q (.bl (gtIS i x j y)) H
theorem op_gtP {X : Cx} {k : Nat} (hr : Room k X.A) : OpR X (compareOp .Gt) (rGtP X.K) := by
  intro pins s σ H x y v u Q I rx ry h
  obtain ⟨a, b, i, p, j, q, rfl, rfl, ha, hb, hq⟩ := h
  cases rx
  cases ry
  obtain ⟨its, r1, p1, _⟩ := I.tuple ha
  obtain ⟨its2, r2, p2, _⟩ := I.tuple hb
  cases r1 with
  | cons z1 t1 => cases t1 with
    | cons z2 t2 =>
      cases t2
      cases r2 with
      | cons w1 u1 => cases u1 with
        | cons w2 u2 =>
          cases u2
          obtain ⟨k1, rfl⟩ := z1
          obtain ⟨k2, rfl⟩ := z2
          obtain ⟨k3, rfl⟩ := w1
          obtain ⟨k4, rfl⟩ := w2
          have key := SeqAt.RcOp.tuples_gt (A := X.A) (s := s) (e := fun m => if m = 0 then decide (i = j) else (p == q)) (r := fun m => if m = 0 then decide (j < i) else decide (q.cps.toList < p.cps.toList)) p1 p2 hr.units0 (fun m h1 h2 => ?_) (fun m h1 h2 _ => ?_)
          · have e : SeqAt.firstLt (fun m => if m = 0 then decide (i = j) else (p == q)) (fun m => if m = 0 then decide (j < i) else decide (q.cps.toList < p.cps.toList)) (decide ([Value.int i k1, .str p k2].toArray.size > [Value.int j k3, .str q k4].toArray.size)) (List.range (min [Value.int i k1, .str p k2].toArray.size [Value.int j k3, .str q k4].toArray.size)) = gtIS i p j q := rfl
            rw [e] at key
            exact key X.prog X.w X.xe _ ⟨.bl _, H, I, rfl, hq⟩
          · match m, h1, h2 with
            | 0, _, _ =>
              have z : (i == j) = decide (i = j) := by
                by_cases q : i = j
                · rw [decide_eq_true q]; exact beq_iff_eq.mpr q
                · rw [decide_eq_false q]; exact beq_eq_false_iff_ne.mpr q
              show SeqAt.EqAt _ _ _ _ (decide (i = j))
              rw [← z]
              exact SeqAt.EqAt.int_int _ _ _ _
            | 1, _, _ => exact SeqAt.EqAt.str_str _ _ _ _
          · match m, h1, h2 with
            | 0, _, _ => exact fun prog w E Q h => gt_int h
            | 1, _, _ => exact fun prog w E Q h => PySem.P.gt_str h
def gtP : PyData → PyData → R PyData
  | .tuple [.int i, .str x], .tuple [.int j, .str y] => .ok (.bool (gtIS i x j y))
  | _, _ => .bad
theorem opd_gtP (K : PySem.W.Frag) : OpD (rGtP K) gtP := by
  intro F H x y d e Q E fh bx bY p
  unfold gtP at p
  split at p
  · obtain ⟨a, vs, rfl, fa, ha, qa⟩ := bx.tup fh
    obtain ⟨b, ws, rfl, fb, hb, qb⟩ := bY.tup fh
    cases qa with
    | cons a1 a2 => cases a2 with
      | cons a3 a4 =>
        cases a4
        cases a1
        cases a3
        cases qb with
        | cons b1 b2 => cases b2 with
          | cons b3 b4 =>
            cases b4
            cases b1
            cases b3
            exact ⟨a, b, _, _, _, _, rfl, rfl, .inl (.inl ha), .inl (.inl hb), p _ F H (.refl fh) (.bl _)⟩
  · exact p.elim
end L3

namespace L3
open PySem PySem.Spec PyProof.Rows L2
open PySem.W (alike alikeAll AllAlike Sortable dataLe EachIs)
/-! ### sorted(set(xs)), xs tuples of ints, fewer than 64 -/
section
variable {P : Program} {w : World} {A : Around} {E : Value → Shared → Prop} {s : Shared}
def JT (P : Program) (w : World) (ks : List (Addr × List Int)) (S : Addr) (i : Nat) (h : Heap) : Prop :=
  (∃ L es ep t, L2.SetTR P w h S L es ep t ∧ L2.Got ks i L) ∧ ∀ p ∈ ks, L2.IsT P w h p.2 p.1
theorem isT_at {h h' : Heap} {k : List Int} {b : Addr} (x : L2.IsT P w h k b) (e : ∀ o, h.get? b = some o → h'.get? b = some o) : L2.IsT P w h' k b := by
  obtain ⟨o, items, n, ho, r⟩ := x
  exact ⟨o, items, n, e o ho, r⟩
theorem adds_tups {items : Array Value} {ks : List (Addr × List Int)} (hit : items.toList = ks.map fun p => Value.ref p.1) (hfew : ks.length < 64) (hu : A.units + 3 < cLine) {S : Addr} : AddsAt P w A S items (JT P w ks S) := by
  intro B D u i v Q hB hv j q
  obtain ⟨⟨L, es, ep, t, R, g⟩, ht⟩ := j
  have hp : (ks.map fun p => Value.ref p.1)[i]? = some v := by rw [← hit, Array.getElem?_toList]; exact hv
  rw [List.getElem?_map] at hp
  cases e : ks[i]? with
  | none => rw [e] at hp; cases hp
  | some p =>
    rw [e] at hp
    have hp : Value.ref p.1 = v := Option.some.inj hp
    subst hp
    have hx := ht p (List.mem_of_getElem? e)
    have hi : i < ks.length := (List.getElem?_eq_some_iff.mp e).1
    unfold setAdd
    refine wpAny_holding (wpAny_bind (wpAny_pyHash_tuple (by omega) hx ?_))
    refine L2.add_at (s := { u with toks := u.toks + (p.2.length + 1) }) R hx (by omega) (by have := g.len; omega) fun b h' L' es' ep' t' sb R' c1 c2 => ?_
    refine q h' _ (Nat.le_add_right _ _) sb ⟨⟨L', es', ep', t', R', ?_⟩, fun y hy => ?_⟩
    · rcases Classical.em (p.2 ∈ L.map (·.2)) with c | c
      · rw [c1 c]; exact g.same e c
      · exact g.more e (c2 c)
    · obtain ⟨o, ho, hex, hd⟩ := R.ob
      exact L2.isT_same (ht y hy) ho hd sb
abbrev encT (k : List Int) : PyData := .tuple (k.map .int)
abbrev leT (p q : List Int) : Bool := dataLe false encT p q
theorem leT_eq (p q : List Int) : leT p q = decide (p ≤ q) := by
  have e := congrFun (congrFun (PySem.W.dataLe_rows (fun x : List Int => x)) p) q
  rw [← e]
  show (!PySem.W.dataLt (.tuple (q.map .int)) (.tuple (p.map .int))) = (!PySem.W.dataLt (.list (q.map .int)) (.list (p.map .int)))
  rw [PySem.W.dataLt_tuple, PySem.W.dataLt_list]
theorem readsAll_ints (h : Heap) : ∀ {k : List Int} {vs : List Value}, ItemsAre (intKind P w) k vs → ReadsAll h vs (k.map .int) []
  | _, _, .nil => .nil
  | _, _, .cons hk t => by
    obtain ⟨tk, rfl⟩ := Value.isInt_shape hk
    exact .cons (.int _ _) (readsAll_ints h t)
theorem reads_isT {h : Heap} {k : List Int} {b : Addr} (x : L2.IsT P w h k b) : Reads h (.ref b) (encT k) [] := by
  obtain ⟨o, items, n, ho, hc, hd, hi⟩ := x
  exact .tuple ho hc hd (readsAll_ints h hi)
theorem each_refs : ∀ (L : List (Addr × List Int)), EachIs (fun v (p : Addr × List Int) => v = Value.ref p.1) (L.map fun p => Value.ref p.1) L
  | [] => .nil
  | p :: L => .cons rfl (each_refs L)
theorem each_perm {α β : Type} {R : α → β → Prop} {us us' : List α} (p : us'.Perm us) : ∀ {ds : List β}, EachIs R us ds → ∃ ds' : List β, ds'.Perm ds ∧ EachIs R us' ds' := by
  induction p with
  | nil => intro ds e; exact ⟨ds, .refl _, e⟩
  | cons x _ ih =>
    intro ds e
    cases e with
    | cons h t =>
      obtain ⟨ds', p', e'⟩ := ih t
      exact ⟨_, p'.cons _, .cons h e'⟩
  | swap x y l =>
    intro ds e
    cases e with
    | cons h1 t1 =>
      cases t1 with
      | cons h2 t2 => exact ⟨_, .swap _ _ _, .cons h2 (.cons h1 t2)⟩
  | trans _ _ ih1 ih2 =>
    intro ds e
    obtain ⟨d1, p1, e1⟩ := ih2 e
    obtain ⟨d2, p2, e2⟩ := ih1 e1
    exact ⟨d2, p2.trans p1, e2⟩
theorem sorted_tupSet {a : Addr} {L : List (Addr × List Int)} {es : Array (Int × Value)} {ep : Nat} {t : SetTable} {Q : Value → Shared → Prop} (R : L2.SetTR P w s.heap a L es ep t) (hh : A.handled = none) (hu : A.units + 5 < cLine) (hne : ∀ p ∈ L, p.2 ≠ [])
    (hQ : ∀ (s' : Shared) (p : Addr) (bs : List (Addr × List Int)) (out : List Value) (c : Nat), (∀ b o, s.heap.get? b = some o → s'.heap.get? b = some o) → s'.gens = s.gens → s'.os = s.os → s.heap.objs.size ≤ p → s'.heap.get? p = some (seqObj "list" out.toArray c) →
      EachIs (fun v (y : Addr × List Int) => v = Value.ref y.1) out (bs.mergeSort (dataLe false fun y : Addr × List Int => encT y.2)) → bs.Perm L → Q (.ref p) s') :
    wpAny (model P w) A (call (.builtin "sorted") [.ref a]) Q E s := by
  obtain ⟨o, ho, hex, hd⟩ := R.ob
  have hsz := R.size
  have hfew := R.few
  refine Calls.call_function_entry kind_sorted plain_sorted entry_sorted (args_sorted1 _) ?_
  unfold Builtin.«sorted»
  refine wpAny_bind (m := checkCount "sorted" 1 1 _) (wpAny_pure ?_)
  refine wpAny_bind (L2.collect_set (A := A.in1) hh ⟨o, ho, hex.1, hd⟩ R.fits (by unfold scanBound; omega) R.tab.ris R.led fun s1 vs k1 hz g1 o1 pm => ?_)
  have hes : es.toList.map (·.2) = L.map fun q => Value.ref q.1 := by
    rw [R.rows]
    unfold L2.rowsOf
    rw [List.map_map] <;> rfl
  rw [hes] at pm
  obtain ⟨bs, pb, eb⟩ := each_perm pm (each_refs L)
  have bl : bs.length = L.length := pb.length_eq
  have vl : vs.length = L.length := by rw [pm.length_eq, List.length_map]
  have hB : ∀ y ∈ bs, L2.IsT P w s.heap y.2 y.1 ∧ y.2 ≠ [] := fun y hy => ⟨R.tup y (pb.mem_iff.mp hy), hne y (pb.mem_iff.mp hy)⟩
  refine wpAny_bind (wpAny_newList ?_ (by rw [sizeLine_eq]; omega))
  have oL : (s1.heap.push (seqObj "list" vs.toArray 0)).get? s1.heap.objs.size = some (seqObj "list" vs.toArray 0) := Heap.get?_push_size _ rfl
  refine wpAny_bind (wpAny_holding (PySem.W.list_sort_data (s := { s1 with heap := s1.heap.push (seqObj "list" vs.toArray 0) }) (enc := fun y : Addr × List Int => encT y.2) oL eb ((PySem.W.each_mem eb).mono fun v y ⟨h, hy⟩ => ⟨[], by
      rw [h]
      exact reads_isT (isT_at (hB y hy).1 fun o e => Heap.get?_push_of_some _ (k1 _ _ e)), by simp⟩) ?_ ?_ (by rw [sizeLine_eq]; omega) (fun b _ => ?_) fun out lo eo => ?_))
  · exact PySem.W.AllAlike.of fun b b' => PySem.W.alike_ints _ _
  · refine .inl fun d hd => ?_
    obtain ⟨y, hy, rfl⟩ := List.mem_map.mp hd
    have := (hB y hy).2
    cases e : y.2 with
    | nil => exact absurd e this
    | cons i r => exact ⟨.int i, r.map .int, rfl⟩
  · have : (encT b.2).depth = 1 := by
      show PyData.depth (.tuple (b.2.map .int)) = 1
      simp only [PyData.depth, PySem.W.depth_ints]
    rw [this]
    show A.units + 1 + 1 + 1 < cLine
    omega
  · obtain ⟨c, hc⟩ := PyProof.Rows.sortedHeap_at (vs := vs) (out := out.toArray) oL
    refine wpAny_pure ⟨_, rfl, hQ _ s1.heap.objs.size bs out c (fun b u e => ?_) g1 o1 hz hc eo pb⟩
    have y := k1 b u e
    have lt := Heap.lt_size y
    show (sortedHeap (s1.heap.push (seqObj "list" vs.toArray 0)) s1.heap.objs.size vs out.toArray).get? b = some u
    rw [sortedHeap_old (Nat.ne_of_lt lt) (by rw [size_push']; exact Nat.lt_succ_of_lt lt)]
    exact Heap.get?_push_of_some _ y
end
/-- the rows once each, rising -/
def uqT (xs : List (List Int)) : List (List Int) := (dd xs).mergeSort leT
theorem leT_trans (a b c : List Int) (h1 : leT a b = true) (h2 : leT b c = true) : leT a c = true := by
  rw [leT_eq, decide_eq_true_eq] at *; exact List.le_trans h1 h2
theorem leT_total (a b : List Int) : (leT a b || leT b a) = true := by
  rw [Bool.or_eq_true, leT_eq, leT_eq, decide_eq_true_eq, decide_eq_true_eq]; exact List.le_total _ _
theorem leT_anti {a b : List Int} (h1 : leT a b = true) (h2 : leT b a = true) : a = b := by
  rw [leT_eq, decide_eq_true_eq] at *; exact List.le_antisymm h1 h2
theorem sortT_eq {ys zs : List (List Int)} (hp : ys.Perm zs) (h : ys.Pairwise fun a b => leT a b = true) : ys = zs.mergeSort leT :=
  List.Perm.eq_of_pairwise (fun _ _ _ _ h1 h2 => leT_anti h1 h2) h (List.pairwise_mergeSort leT_trans leT_total zs) (hp.trans (List.mergeSort_perm zs leT).symm)
theorem uqT_eq {L xs : List (List Int)} (nd : L.Nodup) (h : L.Pairwise fun a b => leT a b = true) (m : ∀ k, k ∈ L ↔ k ∈ xs) : uqT xs = L := (sortT_eq (dd_perm nd m) h).symm
theorem sort_pairs {bs ks L : List (Addr × List Int)} (pb : bs.Perm L) (nd : (L.map (·.2)).Nodup) (m : ∀ k, k ∈ L.map (·.2) ↔ k ∈ ks.map (·.2)) : (bs.mergeSort (dataLe false fun y : Addr × List Int => encT y.2)).map (·.2) = uqT (ks.map (·.2)) := by
  have h1 : (bs.mergeSort (dataLe false fun y : Addr × List Int => encT y.2)).map (·.2) = (bs.map (·.2)).mergeSort leT := by
    refine sortT_eq ((List.mergeSort_perm _ _).map _) (List.pairwise_map.mpr ?_)
    refine (List.pairwise_mergeSort (fun a b c => leT_trans a.2 b.2 c.2) (fun a b => leT_total a.2 b.2) bs).imp fun h => h
  rw [h1]
  unfold uqT
  refine sortT_eq ((List.mergeSort_perm _ _).trans ?_) (List.pairwise_mergeSort leT_trans leT_total _)
  exact (pb.map _).trans (dd_perm nd m)
def tupsOf : List PyData → Option (List (List Int))
  | [] => some []
  | .tuple xs :: r => match intsOf xs with
    | some k => (tupsOf r).map (k :: ·)
    | none => none
  | _ => none
theorem tupsOf_map : ∀ ks : List (List Int), tupsOf (ks.map encT) = some ks
  | [] => rfl
  | k :: ks => by
    show (match intsOf (k.map PyData.int) with
      | some z => (tupsOf (ks.map encT)).map (z :: ·)
      | none => none) = _
    rw [intsOf_map, tupsOf_map ks]; rfl
theorem tupsOf_eq : ∀ {ds : List PyData} {ks : List (List Int)}, tupsOf ds = some ks → ds = ks.map encT
  | [], ks, h => by cases h; rfl
  | d :: r, ks, h => by
    cases d <;> first | (cases h; done) | skip
    rename_i xs
    have h : (match intsOf xs with
      | some z => (tupsOf r).map (z :: ·)
      | none => none) = some ks := h
    cases e : intsOf xs with
    | none => rw [e] at h; cases h
    | some k =>
      rw [e] at h
      cases e2 : tupsOf r with
      | none => rw [e2] at h; cases h
      | some ks' =>
        rw [e2] at h
        have h : some (k :: ks') = some ks := h
        cases h
        rw [List.map_cons, ← tupsOf_eq e2, intsOf_eq e]
def sortSetT (d : PyData) : R PyData := (opt (itemsOf d)).bind fun xs => (opt (tupsOf xs)).bind fun ks => if ks.length < 64 ∧ (ks.all fun k => !k.isEmpty) = true then .ok (.list ((uqT ks).map encT)) else .bad
theorem pairs_of {F : Hp} : ∀ {xs : List (List Int)} {vs : List V}, DqA F vs (xs.map encT) → ∃ ks : List (Addr × List Int), vs = ks.map (fun p => V.ref p.1) ∧ xs = ks.map (·.2) ∧ ∀ p ∈ ks, Dq F (.ref p.1) (encT p.2)
  | [], _, .nil => ⟨[], rfl, rfl, fun p h => by cases h⟩
  | x :: xs, _, .cons h t => by
    obtain ⟨ks, e1, e2, e3⟩ := pairs_of t
    have h' := h
    cases h with
    | tup h1 h2 =>
      rename_i a ys
      refine ⟨(a, x) :: ks, by rw [e1]; rfl, by rw [e2]; rfl, fun p hp => ?_⟩
      rcases List.mem_cons.mp hp with rfl | hp
      · exact h'
      · exact e3 p hp
theorem dqa_pairs {F : Hp} : ∀ {L : List (Addr × List Int)}, (∀ p ∈ L, Dq F (.ref p.1) (encT p.2)) → DqA F (L.map fun p => V.ref p.1) (L.map fun p => encT p.2)
  | [], _ => .nil
  | p :: L, h => .cons (h p List.mem_cons_self) (dqa_pairs fun q hq => h q (List.mem_cons_of_mem _ hq))
section
variable {X : Cx} {W : WX} {a : Expr} {f : Ev → R PyData} {p p2 q pos : Pos} {ta : TE}
def tST (K' : PySem.W.Frag) (ta : TE) : TE := fun σ H Q => ta σ H fun x H1 => ∃ (l : Addr) (ks : List (Addr × List Int)), x = .ref l ∧ (SqL K' H1 l (ks.map fun p => V.ref p.1) ∨ SqT K' H1 l (ks.map fun p => V.ref p.1)) ∧ (∀ p ∈ ks, SqT K' H1 p.1 (p.2.map V.int)) ∧ ks.length < 64 ∧ (∀ p ∈ ks, p.2 ≠ []) ∧
  ∀ (L : List (Addr × List Int)) (r : Addr), (∀ p ∈ L, p ∈ ks) → L.map (·.2) = uqT (ks.map (·.2)) → H1 r = none → Q (.ref r) (upd H1 r (.lst (L.map fun p => V.ref p.1)))
theorem vals_refs : ∀ (L : List (Addr × List Int)) (out : List Value), EachIs (fun v (y : Addr × List Int) => v = Value.ref y.1) out L → Vals (L.map fun p => V.ref p.1) out
  | [], _, .nil => .nil
  | p :: L, _, .cons h t => by
    subst h
    exact .cons rfl (vals_refs L _ t)
theorem pe_sortT {k : Nat} (hr : Room k X.A) (hg : Gl X "sorted") (hm : X.mg "sorted" = none) (hg2 : Gl X "set") (hm2 : X.mg "set" = none) (ha : PE X a ta) (hc : X.calm = true)
    (na : starEach [a] X.env = (false, eval a X.env) :: starEach [] X.env) : PE X (.Call (.Name "sorted" p) [.Call (.Name "set" p2) [a] [] q] [] pos) (tST X.K ta) := by
  constructor
  intro pins s σ H Q I h
  refine Call_ (ld_blt I hg hm boot_sorted ?_)
  refine PyProof.Rows.callWith_builtin1 (PyProof.Rows.args_cons ?_ rfl) rfl rfl
  refine Call_ (ld_blt I hg2 hm2 boot_set ?_)
  refine PyProof.Rows.callWith_type1 (PyProof.Rows.args_cons (thn (ha.run pins s σ H _ I h) fun v s1 h1 => PyProof.Rows.args_nil ?_) na) na rfl
  obtain ⟨x, H1, I1, r1, l, ks, rfl, hl, ht, hfew, hne, q1⟩ := h1
  cases r1
  have un := hr.un
  have hT : ∀ y ∈ ks, L2.IsT X.prog X.w s1.heap y.2 y.1 := fun y hy => L2.Inv.isT I1 (ht y hy)
  have hlt : ∀ y ∈ ks, y.1 < s1.heap.objs.size := fun y hy => by
    obtain ⟨o, items, n, ho, _⟩ := hT y hy
    exact Heap.lt_size ho
  have go : ∀ {T : String} {o it : Obj} {items : Array Value}, SrcAt X.prog X.w T l o it items → s1.heap.get? l = some o → Vals (ks.map fun p => V.ref p.1) items.toList →
      ∀ Q' : Value → Shared → Prop, (∀ (h' : Heap) (tk : Nat) L es ep t, L2.SetTR X.prog X.w h' s1.heap.objs.size L es ep t → L2.Got ks ks.length L → Inv X pins σ H1 { s1 with heap := h', toks := tk } → Q' (.ref s1.heap.objs.size) { s1 with heap := h', toks := tk }) → wpAny (model X.prog X.w) X.A (call (.type "set") [.ref l]) Q' X.xe s1 := fun {T o it items} src ho r Q' hq' => by
    have hit := L2.refs_of_vals r
    have sz : items.size = ks.length := by rw [← Array.length_toList, hit, List.length_map]
    refine set_call (I1.ok.hd hc) src ho (adds_tups hit hfew (by omega)) (fun i h h' j kp => ?_) ?_ fun h' tk j kp => ?_
    · obtain ⟨⟨L, es, ep, t, R, g⟩, jt⟩ := j
      have jt' : ∀ y ∈ ks, L2.IsT X.prog X.w h' y.2 y.1 := fun y hy => isT_at (jt y hy) fun o e => kp _ o (Nat.ne_of_lt (Nat.lt_succ_of_lt (hlt y hy))) e
      exact ⟨⟨L, es, ep, t, R.keep (fun o e => kp _ o (Nat.ne_of_lt (Nat.lt_succ_self _)) e) fun y hy => jt' y (List.mem_of_mem_take (g.sub y hy)), g⟩, jt'⟩
    · exact ⟨⟨[], #[], 0, _, L2.setTR_fresh (Heap.get?_push_size _ rfl), L2.Got.zero ks⟩, fun y hy => L2.isT_keep (hT y hy) fun b o e => Heap.get?_push_of_some _ e⟩
    · rw [sz] at j
      obtain ⟨⟨L, es, ep, t, R, g⟩, jt⟩ := j
      exact hq' h' tk L es ep t R g (I1.kept kp)
  have fin : ∀ (h' : Heap) (tk : Nat) L es ep t, L2.SetTR X.prog X.w h' s1.heap.objs.size L es ep t → L2.Got ks ks.length L → Inv X pins σ H1 { s1 with heap := h', toks := tk } → wpAny (model X.prog X.w) X.A (call (.builtin "sorted") [.ref s1.heap.objs.size]) (EP X pins σ Q) X.xe { s1 with heap := h', toks := tk } := fun h' tk L es ep t R g I2 => by
    have sub : ∀ y ∈ L, y ∈ ks := fun y hy => List.mem_of_mem_take (g.sub y hy)
    refine sorted_tupSet (s := { s1 with heap := h', toks := tk }) R (I2.ok.hd hc) (by omega) (fun y hy => hne y (sub y hy)) fun s' p bs out c k2 g2 o2 hp ho eo pb => ?_
    have hv := vals_refs _ _ eo
    have hlen : ((bs.mergeSort (dataLe false fun y : Addr × List Int => encT y.2)).map fun p => V.ref p.1).length ≤ sizeLine := by
      rw [List.length_map, List.length_mergeSort, pb.length_eq, sizeLine_eq]
      have := R.few
      omega
    have hn : H1 p = none := I2.hok.fresh hp
    have J : Inv X pins σ (upd H1 p (.lst ((bs.mergeSort (dataLe false fun y : Addr × List Int => encT y.2)).map fun p => V.ref p.1))) s' := I2.call' (ch := []) o2 (Un.laid k2 hp hn) (I2.hok.laid k2 hp ⟨hlen, out, c, hv, ho⟩) (by rw [g2]; exact I2.bare) (fun _ z => nomatch z)
    refine ⟨.ref p, _, J, rfl, q1 _ p (fun y hy => sub y (pb.mem_iff.mp ((List.mergeSort_perm _ _).mem_iff.mp hy))) (sort_pairs pb R.nd fun k => ?_) hn⟩
    constructor
    · intro hk
      obtain ⟨y, hy, rfl⟩ := List.mem_map.mp hk
      exact List.mem_map.mpr ⟨y, sub y hy, rfl⟩
    · intro hk
      obtain ⟨y, hy, rfl⟩ := List.mem_map.mp hk
      exact g.all y (by rw [List.take_length]; exact hy)
  rcases hl with hl | hl
  · obtain ⟨its, r, pl, hz⟩ := I1.list hl
    obtain ⟨o, it, ho, src⟩ := src_list (P := X.prog) (w := X.w) pl.isList
    exact go src ho (by simpa using r) _ fun h' tk L es ep t R g I2 => PyProof.Rows.args_nil (fin h' tk L es ep t R g I2)
  · obtain ⟨its, r, pl, hz⟩ := I1.tuple hl
    obtain ⟨o, it, ho, src⟩ := src_tuple (P := X.prog) (w := X.w) pl
    exact go src ho (by simpa using r) _ fun h' tk L es ep t R g I2 => PyProof.Rows.args_nil (fin h' tk L es ep t R g I2)
theorem de_sortT {k : Nat} (hr : Room k X.A) (hc : X.calm = true) (hm : X.mg "sorted" = none) (hm2 : X.mg "set" = none) (ha : DE X W a f) (hg : Gl X "sorted" := by rfl) (hg2 : Gl X "set" := by rfl) (na : starEach [a] X.env = (false, eval a X.env) :: starEach [] X.env := by rfl) :
    DE X W (.Call (.Name "sorted" p) [.Call (.Name "set" p2) [a] [] q] [] pos) (d1 sortSetT f) := pre_E (pe_sortT hr hg hm hg2 hm2 ha hc na) fun σ H Q ⟨H0, F, env, rl, pp⟩ => by
  refine ⟨H0, F, env, rl, (Post.bind pp).mono (fun d p1 v F1 H1 g1 q => ?_) fun c p1 => p1⟩
  have p1 := Post.bind (show Post ((opt (itemsOf d)).bind _) _ _ from p1)
  cases e : itemsOf d with
  | none => rw [e] at p1; exact p1.elim
  | some xs =>
    rw [e] at p1
    have p1 := Post.bind (show Post ((opt (tupsOf xs)).bind _) _ _ from p1)
    cases e2 : tupsOf xs with
    | none => rw [e2] at p1; exact p1.elim
    | some zs =>
      rw [e2] at p1
      have p1 : Post (if zs.length < 64 ∧ (zs.all fun k => !k.isEmpty) = true then R.ok (PyData.list ((uqT zs).map encT)) else .bad) _ _ := p1
      obtain ⟨l, vs, rfl, hs, hd⟩ := q.items (K' := X.K) g1.fh e
      rw [tupsOf_eq e2] at hd
      obtain ⟨ks, rfl, rfl, hk⟩ := pairs_of hd
      split at p1
      · rename_i hh
        rw [List.length_map] at hh
        have hne : ∀ y ∈ ks, y.2 ≠ [] := fun y hy z => by
          have := List.all_eq_true.mp hh.2 y.2 (List.mem_map.mpr ⟨y, hy, rfl⟩)
          rw [z] at this
          cases this
        refine ⟨l, ks, rfl, hs, fun y hy => ?_, hh.1, hne, fun L r sub eq hn => ?_⟩
        · have z := hk y hy
          cases z with
          | tup h1 h2 =>
            rw [h2.ints] at h1
            exact .inl (.inl (g1.fh _ _ h1))
        · have gr : Grow F1 H1 (upd F1 r (.lst (L.map fun p => V.ref p.1))) (upd H1 r (.lst (L.map fun p => V.ref p.1))) := Grow.new g1.fh hn
          refine p1 _ _ _ (g1.trans gr) (.lst upd_same ?_)
          have e3 : (uqT (ks.map (·.2))).map encT = L.map fun p => encT p.2 := by rw [← eq, List.map_map]; rfl
          rw [e3]
          exact dqa_pairs fun y hy => Dq.mono gr.f _ _ (hk y (sub y hy))
      · exact p1.elim
end
end L3

namespace L3
open PySem PySem.Spec PyProof.Rows L2
/-! ### list(range(n)) -/
section
variable {X : Cx} {W : WX} {a : Expr} {f : Ev → R PyData} {p p2 pos q : Pos}
def rangeD : PyData → R PyData := fun x => (asInt x).bind fun n => if n.natAbs ≤ 1000000 then .ok (.list (rangeL 0 n.toNat)) else .bad
theorem rgV_eq (F : Hp) (n : Int) : DqA F (rgV 0 n) (rangeL 0 n.toNat) := by
  unfold rgV rangeL
  rw [show n - 0 = n by omega]
  generalize n.toNat = m
  have : ∀ l : List Nat, DqA F (l.map fun i => V.int (0 + (i : Nat))) (l.map fun (k : Nat) => PyData.int (0 + (k : Int))) := fun l => by
    induction l with
    | nil => exact .nil
    | cons x l ih => exact .cons (.int _) ih
  exact this _
theorem de_listRg (hc : X.calm = true) (hm : X.mg "list" = none) (hm2 : X.mg "range" = none) (ha : DE X W a f) (hg : Gl X "list" := by rfl) (hg2 : Gl X "range" := by rfl) (na2 : starEach [a] X.env = (false, eval a X.env) :: starEach [] X.env := by rfl) (na : starEach [.Call (.Name "range" p2) [a] [] q] X.env = (false, eval (.Call (.Name "range" p2) [a] [] q) X.env) :: starEach [] X.env := by rfl) :
    DE X W (.Call (.Name "list" p) [.Call (.Name "range" p2) [a] [] q] [] pos) (d1 rangeD f) := pre_E (pe_listRg hc hg hm (prg_1 hg2 hm2 ha na2) na) fun σ H Q ⟨H0, F, env, rl, pp⟩ => by
  refine ⟨H0, F, env, rl, (Post.bind pp).mono (fun d p1 v F1 H1 g1 q => ?_) fun c p1 => p1⟩
  cases d <;> first | exact p1.elim | skip
  rename_i n
  cases q
  have p2 : Post (if n.natAbs ≤ 1000000 then R.ok (PyData.list (rangeL 0 n.toNat)) else .bad) _ _ := p1
  split at p2
  · rename_i hh
    refine ⟨n, rfl, ⟨by omega, by omega, by omega, by omega, by omega⟩, fun l hl => ?_⟩
    exact p2 _ _ _ (g1.trans (Grow.new g1.fh hl)) (.lst upd_same (rgV_eq _ n))
  · exact p2.elim
end
end L3

open PySem PySem.Spec PyProof.Rows
namespace HT
section
variable {prog : Program} {w : World} {A : Around} {E : Value → Shared → Prop} {s : Shared}
theorem fm_map {α β : Type} {f : α → Option β} {g : α → β} : ∀ l : List α, (∀ m ∈ l, f m = some (g m)) → l.filterMap f = l.map g
  | [], _ => rfl
  | x :: l, h => by rw [List.filterMap_cons, h x List.mem_cons_self, List.map_cons, fm_map l fun m hm => h m (List.mem_cons_of_mem _ hm)]
theorem pick_rev (xs : Array Value) : (List.range xs.size).filterMap (fun (m : Nat) => xs[((xs.size : Int) - 1 + (m : Int) * (-1)).toNat]?) = xs.toList.reverse := by
  apply List.ext_getElem?
  intro i
  have e : (List.range xs.size).filterMap (fun (m : Nat) => xs[((xs.size : Int) - 1 + (m : Int) * (-1)).toNat]?) = (List.range xs.size).map fun m => xs.toList.reverse.getD m .none := by
    refine fm_map _ fun m hm => ?_
    have hm := List.mem_range.mp hm
    have h1 : ((xs.size : Int) - 1 + (m : Int) * (-1)).toNat = xs.size - 1 - m := by omega
    rw [h1, Array.getElem?_eq_getElem (by omega)]
    show some _ = some _
    congr 1
    rw [List.getD_eq_getElem?_getD, List.getElem?_reverse (by rw [Array.length_toList]; exact hm), Array.length_toList, Array.getElem?_toList, Array.getElem?_eq_getElem (by omega)]
    rfl
  rw [e, List.getElem?_map]
  rcases Nat.lt_or_ge i xs.size with h | h
  · rw [List.getElem?_range h]
    show some (xs.toList.reverse.getD i .none) = _
    rw [List.getD_eq_getElem?_getD]
    rw [List.getElem?_eq_getElem (by rw [List.length_reverse, Array.length_toList]; exact h)]
    rfl
  · rw [List.getElem?_eq_none (by rw [List.length_range]; exact h), List.getElem?_eq_none (by rw [List.length_reverse, Array.length_toList]; exact h)]
    rfl
theorem sliceApplied_rev {sl : Addr} {vs : Value} {n : Nat} {Q : Int × Int × Nat → Shared → Prop} (hs : s.heap.IsSliceOf sl .none .none vs) (ps : IsPart vs (some (-1)))
    (h : Q ((n : Int) - 1, -1, n) s) : wpAny (model prog w) A (Builtin.Slice.sliceApplied (.ref sl) (pure (n : Int))) Q E s := by
  obtain ⟨os, hos, hcs, hds⟩ := id hs
  unfold Builtin.Slice.sliceApplied Builtin.Slice.sliceFields
  refine wpAny_bind (wpAny_bind (wpAny_field hos hds (x := .none) rfl (wpAny_bind (wpAny_field hos hds (x := .none) rfl (wpAny_bind (wpAny_field hos hds (x := vs) rfl (wpAny_pure ?_)))))))
  refine wpAny_bind (slicePart_ ps ?_)
  show wpAny _ _ (if ((-1 : Int) == 0) = true then _ else _) _ _ s
  rw [if_neg (by decide)]
  refine wpAny_bind (slicePart_ .none (wpAny_bind (slicePart_ .none (wpAny_bind (wpAny_pure ?_)))))
  show wpAny _ _ (match Builtin.Slice.sliceAdjust none none (-1) (n : Int) with | (lo, hi) => pure (lo, (-1 : Int), Builtin.Slice.slicePlaces lo hi (-1))) _ _ s
  have e1 : Builtin.Slice.sliceAdjust none none (-1) (n : Int) = ((n : Int) - 1, -1) := rfl
  rw [e1]
  show wpAny _ _ (pure ((n : Int) - 1, (-1 : Int), Builtin.Slice.slicePlaces ((n : Int) - 1) (-1) (-1))) _ _ s
  have e2 : Builtin.Slice.slicePlaces ((n : Int) - 1) (-1) (-1) = n := by
    unfold Builtin.Slice.slicePlaces
    simp only [show ¬ ((-1 : Int) > 0) by decide, if_false]
    rw [show - -1 = (1 : Int) from rfl, Int.ediv_one]
    split <;> omega
  rw [e2]
  exact wpAny_pure h
theorem getItem_tuple_rev {t sl : Addr} {items : Array Value} {vs : Value} {Q : Value → Shared → Prop} (ht : IsTup s.heap t items) (hs : s.heap.IsSliceOf sl .none .none vs) (ps : IsPart vs (some (-1)))
    (h : Q (.ref s.heap.objs.size) { s with heap := s.heap.push { cls := .type "tuple", data := .seq (items.toList.reverse).toArray } })
    (hsz : items.size ≤ sizeLine) : wpAny (model prog w) A (getItem (.ref t) (.ref sl)) Q E s := by
  have htake : sizeOk (.seq (items.toList.reverse).toArray) := by
    show (items.toList.reverse).toArray.size ≤ sizeLine
    rw [List.size_toArray, List.length_reverse, Array.length_toList]
    exact hsz
  obtain ⟨os, hos, hcs, hds⟩ := id hs
  have hTs : s.TypeIs (.ref sl) "slice" := ⟨os, hos, hcs⟩
  unfold getItem
  try with_reducible refine wpAny_holding ?_
  first | refine wpAny_bind (wpAny_pure ?_) | skip
  refine wpAny_bind (wpAny_sequenceKey ht.typeIs (by decide) ?_)
  refine wpAny_bind (wpAny_callSpecial?_slot (name := Str.ofString "__getitem__") ht.typeIs PyProof.Rows.slot_tuple_getitem
    (wpAny_call_entry PyProof.Rows.slot_tuple_getitem ht.typeIs entry_tuple_getitem ?_ (args_tuple_getitem _ _)))
  show wpAny _ _ (Builtin.Tuple.tupleItemsOf (.ref t) >>= _) _ _ s
  refine wpAny_bind (tupleItemsOf_ ht ?_)
  refine wpAny_bind (wpAny_typeOf hTs ?_)
  rw [if_pos (by decide)]
  refine wpAny_bind (sliceApplied_rev hs ps ?_)
  have hno : ¬ ((((items.size : Int) - 1) == 0 && (-1 : Int) == 1 && items.size == items.size) = true) := by
    rw [show ((-1 : Int) == 1) = false from rfl, Bool.and_false, Bool.false_and]
    exact Bool.false_ne_true
  show wpAny _ _ (if ((((items.size : Int) - 1) == 0 && (-1 : Int) == 1 && items.size == items.size) = true) then _ else _) _ _ s
  rw [if_neg hno, pick_rev]
  first
    | exact wpAny_bind (m := Builtin.Tuple.tupleExact _) (wpAny_newObj_type (wpAny_pure ⟨_, rfl, wpAny_pure h⟩) htake)
    | exact wpAny_bind (m := Builtin.Tuple.tupleExact _) (wpAny_newObj_type (wpAny_bind (wpAny_pure (wpAny_pure ⟨_, rfl, wpAny_pure h⟩))) htake)
    | exact wpAny_bind (wpAny_bind (m := Builtin.Tuple.tupleExact _) (wpAny_newObj_type (wpAny_pure (wpAny_pure ⟨_, rfl, wpAny_pure h⟩)) htake))
    | exact wpAny_bind (wpAny_bind (m := Builtin.Tuple.tupleExact _) (wpAny_newObj_type (wpAny_pure ⟨_, rfl, wpAny_pure h⟩) htake))
end
end HT
namespace L3
open L2
section
variable {X : Cx}
def rSlT3 (K : PySem.W.Frag) : V → Option Int → Option Int → Option Int → Hp → VK → Prop := fun x lo hi st H Q => ∃ a xs, x = .ref a ∧ SqT K H a xs ∧ lo = none ∧ hi = none ∧ st = some (-1) ∧ ∀ p, H p = none → Q (.ref p) (upd H p (.tup xs.reverse))
theorem vals_rev {xs : List V} {us : List Value} (r : Vals xs us) : Vals xs.reverse us.reverse := by
  induction r with
  | nil => exact .nil
  | cons h t ih =>
    rw [List.reverse_cons, List.reverse_cons]
    exact ih.append (.cons h .nil)
theorem sl3_tup : SlR3 X (rSlT3 X.K) := by
  intro pins s σ H x v vl vu vs lo hi st sl Q I rx hs pl pu pc h
  obtain ⟨a, xs, rfl, hx, rfl, rfl, rfl, q⟩ := h
  cases rx
  cases pl
  cases pu
  obtain ⟨its, r, ht, hz⟩ := I.tuple hx
  have hlen := r.length
  refine ⟨"tuple", _, PyProof.Rows.slot_tuple_getitem.lookup, ht.typeIs, ?_⟩
  refine HT.getItem_tuple_rev ht hs pc ?_ (by rw [List.size_toArray]; omega)
  refine ⟨.ref s.heap.objs.size, _, I.laid (t' := s.toks) (o := .tup xs.reverse) (fun b ob q => Heap.get?_push_of_some _ q) (Nat.le_refl _) ?_, rfl, q _ (I.hok.fresh (Nat.le_refl _))⟩
  exact ⟨by rw [List.length_reverse]; exact hz, _, vals_rev r, IsTup.new _ _⟩
end
def revD (d : PyData) (lo hi st : Option Int) : R PyData := match d with
  | .tuple xs => if lo = none ∧ hi = none ∧ st = some (-1) then .ok (.tuple xs.reverse) else .bad
  | _ => .bad
theorem rev_vals {F : Hp} {vs : List V} {ds : List PyData} (h : DqA F vs ds) : DqA F vs.reverse ds.reverse := by
  have app : ∀ {vs : List V} {ds : List PyData} {vs2 : List V} {ds2 : List PyData}, DqA F vs ds → DqA F vs2 ds2 → DqA F (vs ++ vs2) (ds ++ ds2) := by
    intro vs ds vs2 ds2 h h2
    induction ds generalizing vs with
    | nil => cases h; exact h2
    | cons d ds ih => cases h with
      | cons a b => exact .cons a (ih b)
  induction ds generalizing vs with
  | nil => cases h; exact .nil
  | cons d ds ih => cases h with
    | cons a b =>
      rw [List.reverse_cons, List.reverse_cons]
      exact app (ih b) (.cons a .nil)
theorem sldT3 (K : PySem.W.Frag) {F H : Hp} {x : V} {d : PyData} {lo hi st : Option Int} {Q : VK} {E : Str → Prop} (fh : Same F H) (bx : Bq F H x d) (p : Post (revD d lo hi st) (fun z => ∀ v F' H', Grow F H F' H' → Dq F' v z → Q v H') E) : rSlT3 K x lo hi st H Q := by
  unfold revD at p
  split at p
  · obtain ⟨l, vs, rfl, h0, h1, h2⟩ := bx.tup fh
    split at p
    · rename_i hh
      refine ⟨l, vs, rfl, .inl (.inl h1), hh.1, hh.2.1, hh.2.2, fun q nq => ?_⟩
      have g := Grow.new (o := .tup vs.reverse) fh nq
      have h9 := (rev_vals h2).mono g.f
      exact p _ _ _ g (.tup upd_same h9)
    · exact p.elim
  · exact p.elim
def dRev (f : Ev → R PyData) (l u c : Ev → R (Option Int)) : Ev → R PyData := fun env => (f env).bind fun x => (l env).bind fun lo => (u env).bind fun hi => (c env).bind fun st => revD x lo hi st
section
variable {X : Cx} {W : WX} {a : Expr} {f : Ev → R PyData} {pos p p2 : Pos} {lo hi : Option Expr} {st : Expr} {gl gu gc : Ev → R (Option Int)}
theorem de_rev (ha : DB X W a f) (hl : DO X W lo gl) (hu : DO X W hi gu) (hc : DO X W (some st) gc) : DE X W (.Subscript a (.Slice lo hi (some st) p2) pos) (dRev f gl gu gc) :=
  pre_E (pe_slice3 sl3_tup ha hl hu hc) fun σ H Q ⟨H0, F, env, rl, p⟩ => by
  refine ⟨H0, F, env, rl, (Post.bind p).mono (fun d p1 v F1 H1 g1 b1 => ?_) fun c p1 => p1⟩
  refine ⟨H0, F1, env, rl.grow g1, (Post.bind p1).mono (fun o p2 F2 H2 g2 => ?_) fun c p2 F' H' g' => p2 F' H' (g1.trans g')⟩
  have g12 := g1.trans g2
  refine ⟨H0, F2, env, rl.grow g12, (Post.bind p2).mono (fun o2 p3 F3 H3 g3 => ?_) fun c p2 F' H' g' => p2 F' H' (g12.trans g')⟩
  have g13 := g12.trans g3
  refine ⟨H0, F3, env, rl.grow g13, (Post.bind p3).mono (fun o3 p4 F4 H4 g4 => ?_) fun c p2 F' H' g' => p2 F' H' (g13.trans g')⟩
  exact sldT3 _ g4.fh (((b1.grow g2).grow g3).grow g4) (p4.mono (fun z k v F' H' g' q => k v F' H' ((g13.trans g4).trans g') q) fun _ k => k)
end
end L3

namespace L3
open PySem PySem.Spec PyProof.Rows L2
open PySem.W (alike dataLt)
section
variable {X : Cx} {W : WX} {a b c e e2 : Expr} {f g h : Ev → R PyData} {pos p p1 p2 p3 apos cpos : Pos} {x : Str} {ta tb : TE}
/-! ### dicts with pairs of ints as keys -/
abbrev kk (k : Int × Int) : List Key := [.inl k.1, .inl k.2]
theorem kk_inj {k l : Int × Int} (h : kk k = kk l) : k = l := by
  obtain ⟨a, b⟩ := k
  obtain ⟨c, d⟩ := l
  injection h with h1 h2
  injection h2 with h2 _
  injection h1 with h1
  injection h2 with h2
  show (a, b) = (c, d)
  rw [show a = c from h1, show b = d from h2]
def dtpOf : Sl → R (List ((Int × Int) × PyData))
  | .big (.dtp kvs) => .ok kvs
  | _ => .bad
def getT? (kvs : List ((Int × Int) × PyData)) (k : Int × Int) : Option PyData := (kvs.find? fun kv => decide (kv.1 = k)).map (·.2)
def putT (kvs : List ((Int × Int) × PyData)) (k : Int × Int) (v : PyData) : List ((Int × Int) × PyData) := if (kvs.any fun kv => decide (kv.1 = k)) = true then kvs.map (fun kv => if kv.1 = k then (kv.1, v) else kv) else kvs ++ [(k, v)]
theorem KvT.get {F : Hp} (k : Int × Int) : ∀ {ks : List (List Key × V)} {kvs : List ((Int × Int) × PyData)}, KvT F ks kvs → match getT? kvs k with
    | some d => ∃ v, valV ks (kk k) = some v ∧ Dq F v d
    | none => valV ks (kk k) = none
  | _, _, .nil => rfl
  | _, _, .cons (i := i) (j := j) (v := v) (d := d) (ks := ks) (kvs := kvs) h r => by
    have ih := KvT.get k r
    by_cases e : (i, j) = k
    · have e1 : getT? (((i, j), d) :: kvs) k = some d := by unfold getT?; rw [List.find?_cons, show decide ((i, j) = k) = true from decide_eq_true e]; rfl
      rw [e1]
      exact ⟨v, valV_pos (by rw [← e]), h⟩
    · have e1 : getT? (((i, j), d) :: kvs) k = getT? kvs k := by unfold getT?; rw [List.find?_cons, show decide ((i, j) = k) = false from decide_eq_false e]
      rw [e1, valV_neg (fun z => e (kk_inj (k := (i, j)) z))]
      exact ih
theorem KvT.any {F : Hp} (k : Int × Int) : ∀ {ks : List (List Key × V)} {kvs : List ((Int × Int) × PyData)}, KvT F ks kvs → (ks.any fun kv => decide (kv.1 = kk k)) = (kvs.any fun kv => decide (kv.1 = k))
  | _, _, .nil => rfl
  | _, _, .cons (i := i) (j := j) h r => by
    rw [List.any_cons, List.any_cons, KvT.any k r]
    congr 1
    rw [Bool.eq_iff_iff, decide_eq_true_eq, decide_eq_true_eq]
    exact ⟨fun z => kk_inj (k := (i, j)) z, fun z => by rw [← z]⟩
theorem KvT.map {F : Hp} {k : Int × Int} {v : V} {d : PyData} (q : Dq F v d) : ∀ {ks : List (List Key × V)} {kvs : List ((Int × Int) × PyData)}, KvT F ks kvs → KvT F (ks.map fun kv => if kv.1 = kk k then (kv.1, v) else kv) (kvs.map fun kv => if kv.1 = k then (kv.1, d) else kv)
  | _, _, .nil => .nil
  | _, _, .cons (i := i) (j := j) h r => by
    rw [List.map_cons, List.map_cons]
    by_cases e : (i, j) = k
    · rw [if_pos (by rw [← e]), if_pos e]
      exact .cons q (KvT.map q r)
    · rw [if_neg (fun z => e (kk_inj (k := (i, j)) z)), if_neg e]
      exact .cons h (KvT.map q r)
theorem KvT.snoc {F : Hp} {k : Int × Int} {v : V} {d : PyData} (q : Dq F v d) : ∀ {ks : List (List Key × V)} {kvs : List ((Int × Int) × PyData)}, KvT F ks kvs → KvT F (ks ++ [(kk k, v)]) (kvs ++ [(k, d)])
  | _, _, .nil => .cons q .nil
  | _, _, .cons h r => .cons h (KvT.snoc q r)
theorem KvT.put {F : Hp} {ks : List (List Key × V)} {kvs : List ((Int × Int) × PyData)} {k : Int × Int} {v : V} {d : PyData} (h : KvT F ks kvs) (q : Dq F v d) : KvT F (putK ks (kk k) v) (putT kvs k d) := by
  unfold putK putT
  rw [h.any k]
  split
  · exact h.map q
  · exact h.snoc q
theorem KvT.length {F : Hp} : ∀ {ks : List (List Key × V)} {kvs : List ((Int × Int) × PyData)}, KvT F ks kvs → ks.length = kvs.length
  | _, _, .nil => rfl
  | _, _, .cons _ r => by rw [List.length_cons, List.length_cons, r.length]
theorem KvT.keys {F : Hp} : ∀ {ks : List (List Key × V)} {kvs : List ((Int × Int) × PyData)}, KvT F ks kvs → ks.map (·.1) = (kvs.map (·.1)).map kk
  | _, _, .nil => rfl
  | _, _, .cons _ r => by rw [List.map_cons, List.map_cons, List.map_cons, r.keys]
theorem KvT.mono' {F F' : Hp} (s : Same F F') : ∀ {ks : List (List Key × V)} {kvs : List ((Int × Int) × PyData)}, KvT F ks kvs → KvT F' ks kvs
  | _, _, .nil => .nil
  | _, _, .cons h r => .cons (h.mono s) (KvT.mono' s r)
theorem fpOf_dtp {H : Hp} {a : Addr} {kvs : List ((Int × Int) × PyData)} : fpOf H a (.dtp kvs) = [a] := rfl
theorem Rl.dtp {K : PySem.W.Frag} {mg : Mg} {H0 : G0} {env : Ev} {σ : L2.St} {F H : Hp} {i : Nat} {kvs : List ((Int × Int) × PyData)} (rl : Rl K mg H0 env σ F H) (h : dtpOf (sget env i) = .ok kvs) : ∃ a ks, σ[i]? = some (some (.ref a)) ∧ H a = some (.dT ks) ∧ KvT F ks kvs ∧ sget env i = .big (.dtp kvs) := by
  unfold dtpOf at h
  split at h
  · rename_i kv e
    cases h
    obtain ⟨a, h1, ⟨ks, h2, h3⟩, _⟩ := rl.big e
    exact ⟨a, ks, h1, h2, h3, e⟩
  · cases h
theorem dtpOf_noexc {s : Sl} {c : Str} : dtpOf s ≠ .exc c := by unfold dtpOf; split <;> simp
theorem dtp_run {env : Ev} {i : Nat} {α : Type} {r : List ((Int × Int) × PyData) → R α} {k : α → Prop} {E : Str → Prop} (p : Post ((dtpOf (sget env i)).bind r) k E) : ∃ kvs, dtpOf (sget env i) = .ok kvs ∧ Post (r kvs) k E := by
  cases e : dtpOf (sget env i) with
  | bad => rw [e] at p; exact p.elim
  | exc c => exact absurd e dtpOf_noexc
  | ok kvs => rw [e] at p; exact ⟨kvs, rfl, p⟩
def asPr : PyData → R (Int × Int)
  | .tuple [.int i, .int j] => .ok (i, j)
  | _ => .bad
theorem pr_run {d : PyData} {α : Type} {r : Int × Int → R α} {k : α → Prop} {E : Str → Prop} (p : Post ((asPr d).bind r) k E) : ∃ x, d = .tuple [.int x.1, .int x.2] ∧ Post (r x) k E := by
  unfold asPr at p
  split at p
  · exact ⟨(_, _), rfl, p⟩
  · exact p.elim
theorem Dq.pair {F : Hp} {v : V} {k : Int × Int} (q : Dq F v (.tuple [.int k.1, .int k.2])) : ∃ b, v = .ref b ∧ F b = some (.tup ((kk k).map kV)) := by
  cases q with
  | tup h1 h2 =>
    cases h2 with
    | cons a t => cases t with
      | cons b t => cases t; cases a; cases b; exact ⟨_, rfl, h1⟩
/-- x.get(e, e2) -/
def dDtpGet (i : Nat) (f g : Ev → R PyData) : Ev → R PyData := fun env => (dtpOf (sget env i)).bind fun kvs => (f env).bind fun d => (asPr d).bind fun k => (g env).bind fun z => .ok ((getT? kvs k).getD z)
theorem de_dtpGet {k : Nat} (i : Nat) (hr : Room k X.A) (he : DE X W e f) (hg : DE X W e2 g) (hN : X.N[i]? = some x := by rfl) (hv : Vis X.env.scope x := by first | exact Or.inl rfl | exact Or.inr (Or.inl rfl) | exact Or.inr (Or.inr rfl)) (hd : (x == ("__debug__" : Str)) = false := by decide) (hcd : (x == ("__classdict__" : Str)) = false := by decide)
    (base : attributeBase (.Name x p1) "get" X.env (eval (.Name x p1) X.env) = eval (.Name x p1) X.env := by rfl)
    (few : ((backTo cpos (starEach [e, e2] X.env)).all (fun x => !x.1) && (backToKw cpos (keywordEach [] X.env)).all (fun x => x.1.isSome) && decide (([e, e2] : List Expr).length + ([] : List Keyword).length + (if ([] : List Keyword).isEmpty then 0 else 1) < 30)) = true := by rfl)
    (line : (apos.endLine == cpos.line) = true := by rfl) (trees : backTo cpos (starEach [e, e2] X.env) = [(false, eval e X.env), (false, eval e2 X.env)] := by rfl) :
    DE X W (.Call (.Attribute (.Name x p1) "get" apos) [e, e2] [] cpos) (dDtpGet i f g) := pre_E (pe_dget2 (by have := hr.un; omega) (pe_var hN hv hd hcd) he hg ⟨base, few, line, trees⟩) fun σ H Q ⟨H0, F, env, rl, p⟩ => by
  obtain ⟨kvs, e1, p⟩ := dtp_run p
  obtain ⟨a, ks, h1, h2, h3, _⟩ := rl.dtp e1
  refine ⟨_, h1, a, rfl, .inr ⟨ks, .inl h2⟩, H0, F, env, rl, (Post.bind p).mono (fun d p1 v F1 H1 g1 q => ?_) fun c p1 => p1⟩
  obtain ⟨z, rfl, p1⟩ := pr_run p1
  obtain ⟨b, rfl, hb⟩ := q.pair
  refine ⟨H0, F1, env, rl.grow g1, (Post.bind (show Post ((g env).bind fun z2 => R.ok ((getT? kvs z).getD z2)) _ _ from p1)).mono (fun d2 p2 v2 F2 H2 g2 q2 => ?_) fun c p2 F' H' g' => p2 F' H' (g1.trans g')⟩
  have g12 := g1.trans g2
  have h4 := h3.get z
  have hb2 : H2 b = some (.tup ((kk z).map kV)) := g2.h _ _ (g1.fh _ _ hb)
  cases e2 : getT? kvs z with
  | none =>
    rw [e2] at h4 p2
    exact ⟨none, .inr ⟨ks, kk z, b, .inl (g12.h _ _ h2), rfl, hb2, h4.symm⟩, p2 v2 F2 H2 g12 q2⟩
  | some d =>
    rw [e2] at h4 p2
    obtain ⟨v, e3, e4⟩ := h4
    exact ⟨some v, .inr ⟨ks, kk z, b, .inl (g12.h _ _ h2), rfl, hb2, e3.symm⟩, p2 v F2 H2 g12 (e4.mono g12.f)⟩
/-- x = {} -/
def sDtpNew (i : Nat) : Ev → R Out := fun env => .ok (.nx (env.set i (.big (.dtp []))))
theorem dtp_new {H0 : G0} {F0 F H : Hp} {env : Ev} {σ : L2.St} {K : PySem.W.Frag} {mg : Mg} (i : Nat) (gr : Grow F0 H0 F H) (rl : Rl K mg H0 env σ F H) {q : Addr} (nq : H q = none) {ks : List (List Key × V)} {kvs : List ((Int × Int) × PyData)} (h : KvT F ks kvs) :
    Grow F0 H0 F (upd H q (.dT ks)) ∧ Rl K mg H0 (env.set i (.big (.dtp kvs))) (σ.set i (some (.ref q))) F (upd H q (.dT ks)) := by
  have hu : Same H (upd H q (.dT ks)) := same_upd (Same.refl H) nq
  refine ⟨⟨gr.f, gr.h.trans hu, rl.fh.trans hu, gr.nw⟩, rl.put i (Same.refl _) (rl.fh.trans hu) (fun x o e _ => hu x o e) (fun j t u x _ h1 h2 z => ((rl.sl j t u h1 h2).part z).2.1) ⟨q, rfl, ⟨ks, upd_same, h⟩, by rw [fpOf_dtp]; simp, fun x hx => ?_⟩ fun j t u x _ h1 h2 z z' => ?_⟩
  · rw [fpOf_dtp] at hx
    rw [List.mem_singleton.mp hx]
    exact ⟨gr.h.free nq, rl.fh.free nq, _, upd_same, fun _ _ z => by cases z⟩
  · have z' : x ∈ fpOf (upd H q (.dT ks)) q (.dtp kvs) := z'
    rw [fpOf_dtp] at z'
    rw [List.mem_singleton.mp z'] at z
    exact rl.apart h1 h2 z nq
theorem ds_dtpNew (i : Nat) (hN : X.N.Nodup) (hi : X.N[i]? = some x := by rfl) (hx : L2.Loc X.env.scope x := by first | exact Or.inl rfl | exact Or.inr rfl) (hs : swapsWith (.Dict [] [] p) (some (.Name x p2)) pos.line X.env = pure false := by rfl)
    (hf : X.fn x = true ∨ X.env.scope.names.lookup x = some .local := by first | exact .inl rfl | exact .inr rfl) : DS X W (.Assign [.Name x p2] (.Dict [] [] p) pos) (sDtpNew i) := pre_S (ps_set hN hi hx pe_dnewT hs hf) fun D σ H ⟨F0, H0, F, env, gr, rl, p⟩ q nq => by
  obtain ⟨a, b⟩ := dtp_new i gr rl nq (ks := []) (kvs := []) .nil
  exact p _ F _ a b
/-- x[e] = e2 -/
def sDtpSet (i : Nat) (f g : Ev → R PyData) : Ev → R Out := fun env => (g env).bind fun z => (dtpOf (sget env i)).bind fun kvs => (f env).bind fun d => (asPr d).bind fun k => if kvs.length ≤ BIG then .ok (.nx (env.set i (.big (.dtp (putT kvs k z))))) else .bad
theorem ds_dtpSet {k : Nat} (i : Nat) (hr : Room k X.A) (he : DE X W e f) (hg : DE X W e2 g) (hN : X.N[i]? = some x := by rfl) (hv : Vis X.env.scope x := by first | exact Or.inl rfl | exact Or.inr (Or.inl rfl) | exact Or.inr (Or.inr rfl)) (hd : (x == ("__debug__" : Str)) = false := by decide) (hcd : (x == ("__classdict__" : Str)) = false := by decide)
    (hs : swapsWith e2 (some (.Subscript (.Name x p1) e p2)) pos.line X.env = pure false := by rfl) :
    DS X W (.Assign [.Subscript (.Name x p1) e p2] e2 pos) (sDtpSet i f g) := pre_S (ps_dput (by have := hr.un; omega) (pe_var hN hv hd hcd) he hg hs) fun D σ H ⟨F0, H0, F, env, gr, rl, p⟩ => by
  refine ⟨H0, F, env, rl, (Post.bind p).mono (fun z p1 v F1 H1 g1 q => ?_) fun c k => excOn gr k⟩
  obtain ⟨kvs, hsl, p1⟩ := dtp_run p1
  · obtain ⟨a, ks, h1, h2, h3, e3⟩ := rl.dtp hsl
    refine ⟨_, h1, H0, F1, env, rl.grow g1, (Post.bind p1).mono (fun d p2 v2 F2 H2 g2 q2 => ?_) fun c k => excOn (gr.on g1) k⟩
    obtain ⟨k2, rfl, p2⟩ := pr_run p2
    have p2 : Post (if kvs.length ≤ BIG then R.ok (Out.nx (env.set i (.big (.dtp (putT kvs k2 z))))) else .bad) _ _ := p2
    split at p2
    · rename_i hh
      obtain ⟨b, rfl, hb⟩ := q2.pair
      have g12 := g1.trans g2
      have gr2 := gr.on g12
      obtain ⟨a', hσ', ba, kc⟩ := (rl.grow g12).chB gr2 (j := i) (b := .dtp kvs) (by rw [e3]; rfl) (F' := F2) (H' := H2) (b' := .dtp kvs)
      rw [h1] at hσ'; cases hσ'
      have hfa := ba.2.2 a (by rw [fpOf_dtp]; simp)
      have h2' := g12.h _ _ h2
      have hka := (h3.mono' g12.f).put (k := k2) (q.mono g2.f)
      obtain ⟨z1, z2, _⟩ := kc F2 (upd H2 a (.dT (putK ks (kk k2) v))) (.dtp (putT kvs k2 z)) ⟨Same.refl _, fun x o e => by
          have nx : x ≠ a := fun z => by rw [z, hfa.1] at e; cases e
          rw [upd_ne nx]; exact g12.fh x o e, fun x o e n => by
          have nx : x ≠ a := fun z => n (by rw [z, fpOf_dtp]; simp)
          rw [upd_ne nx]; exact e, fun x o e => .inl e⟩
        ⟨⟨_, upd_same, hka⟩, by rw [fpOf_dtp]; simp, fun x hx => by
          rw [fpOf_dtp] at hx
          rw [List.mem_singleton.mp hx]
          exact ⟨hfa.1, _, upd_same, fun _ _ z => by cases z⟩⟩ (fun x hx => .inl hx)
      refine ⟨a, _, rfl, .inr ⟨ks, kk k2, b, h2', rfl, g12.fh _ _ hb, by rw [h3.length]; exact big_lt hh, rfl⟩, ?_⟩
      have ep : putB i (.dtp (putT kvs k2 z)) env = env.set i (.big (.dtp (putT kvs k2 z))) := by unfold putB; rw [e3]
      rw [ep] at z2
      exact p2 σ F2 _ z1 z2
    · exact p2.elim
end
end L3

namespace L3
open PySem PySem.Spec PyProof.Rows L2
open PySem.W (alike alikeAll AllAlike Sortable dataLe EachIs)
/-! ### sorted(d), d a dict with tuples of ints as keys -/
theorem keyed {H : Hp} : ∀ {kvs : List (List Key × V)} {kz : List (List Key × Addr × Value)}, KT H kvs kz → ∀ {ks : List (List Int)}, kvs.map (·.1) = ks.map (fun k => k.map Sum.inl) →
    ∃ L0 : List (Addr × List Int), L0.map (·.1) = kz.map (fun x => x.2.1) ∧ L0.map (·.2) = ks ∧ ∀ q ∈ L0, H q.1 = some (.tup (q.2.map V.int)) := by
  intro kvs kz r
  induction r with
  | nil =>
    intro ks h
    cases ks with
    | nil => exact ⟨[], rfl, rfl, fun q hq => by cases hq⟩
    | cons k ks => cases h
  | @cons p q ps qs hh t ih =>
    intro ks h
    cases ks with
    | nil => cases h
    | cons k ks =>
      rw [List.map_cons, List.map_cons] at h
      injection h with h1 h2
      obtain ⟨L0, a1, a2, a3⟩ := ih h2
      refine ⟨(q.2.1, k) :: L0, by rw [List.map_cons, List.map_cons, a1], by rw [List.map_cons, a2], fun z hz => ?_⟩
      rcases List.mem_cons.mp hz with rfl | hz
      · have e := hh.2.1
        have h1 : p.1 = k.map Sum.inl := h1
        rw [h1, List.map_map] at e
        exact e
      · exact a3 z hz
def rSortT : List V → Hp → VK → Prop := fun xs H Q => ∃ (d : Addr) (kvs : List (List Key × V)) (ks : List (List Int)), xs = [V.ref d] ∧ Rd H d (.dT kvs) ∧ kvs.map (·.1) = ks.map (fun k => k.map Sum.inl) ∧ (∀ k ∈ ks, k ≠ []) ∧
  ∀ (p : Addr) (L : List (Addr × List Int)), H p = none → L.map (·.2) = ks.mergeSort leT → (∀ q ∈ L, H q.1 = some (.tup (q.2.map V.int))) → Q (.ref p) (upd H p (.lst (L.map fun q => V.ref q.1)))
theorem call_sortedT {X : Cx} {k : Nat} (hr : Room k X.A) (hc : X.calm = true) : CallR X (.builtin "sorted") rSortT := by
  intro pins s σ H xs us Q I r h
  obtain ⟨d, kvs, ks, rfl, hd, hk, hne, q⟩ := h
  obtain ⟨u, rfl, rx⟩ := r.one
  cases rx
  have un := hr.un
  obtain ⟨z, hs, kz, pr, o, es, ep, ho, hx, hdt, he, hn⟩ := (show ObjOk X.prog X.w H s.heap d (.dT kvs) from hd.ok I.hok)
  have l1 : es.size = kz.length := size_of_entries he
  have l2 : kvs.length = kz.length := Paired.length pr
  obtain ⟨L0, a1, a2, a3⟩ := keyed pr hk
  have l3 : L0.length = kz.length := by
    have := congrArg List.length a1
    rw [List.length_map, List.length_map] at this
    exact this
  refine Calls.call_function_entry kind_sorted plain_sorted entry_sorted (args_sorted1 _) ?_
  unfold Builtin.«sorted»
  refine wpAny_bind (m := checkCount "sorted" 1 1 _) (wpAny_pure ?_)
  refine wpAny_bind (PySem.W.kdu_collect (A := X.A.in1) (kdl_raw hs hx hdt) (I.ok.hd hc) ho (by omega) fun h' tk acc kp it => ?_)
  have ea : acc.toList = L0.map fun q => Value.ref q.1 := by
    have hl : acc.toList.length = kz.length := by rw [Array.length_toList, it.1]; exact l1
    have e0 : (L0.map fun q => Value.ref q.1) = (kz.map fun x => x.2.1).map Value.ref := by rw [← a1, List.map_map]; rfl
    rw [e0, List.map_map]
    apply List.ext_getElem?
    intro j
    rw [List.getElem?_map]
    cases hj : acc.toList[j]? with
    | none =>
      have h1 := List.getElem?_eq_none_iff.mp hj
      rw [List.getElem?_eq_none (by omega)]
      all_goals rfl
    | some v =>
      obtain ⟨en, hen, hv⟩ := it.2 j v (by rw [← Array.getElem?_toList]; exact hj)
      have qe := entry_at he j
      rw [hen] at qe
      cases hb : kz[j]? with
      | none =>
        rw [hb] at qe
        exact nomatch (show some en = none from qe)
      | some b =>
        rw [hb] at qe
        have e2 : en = entryOfKey (tupleKind (mixKind X.prog X.w)) b := Option.some.inj qe
        rw [hv, e2]
        all_goals rfl
  have hal : acc.toList.length = L0.length := by rw [ea, List.length_map]
  have I1 : Inv X pins σ H { s with heap := h', toks := tk } := I.kept kp
  refine wpAny_bind (wpAny_newList ?_ (by rw [hal]; omega))
  have hoL : (h'.push (seqObj "list" acc.toList.toArray 0)).get? h'.objs.size = some (seqObj "list" acc.toList.toArray 0) := Heap.get?_push_size _ rfl
  show wpAny _ _ _ _ _ { s with heap := h'.push (seqObj "list" acc.toList.toArray 0), toks := tk }
  have hB : ∀ y ∈ L0, L2.IsT X.prog X.w h' y.2 y.1 ∧ y.2 ≠ [] := fun y hy => ⟨L2.Inv.isT I1 (.inl (.inl (a3 y hy))), hne y.2 (by rw [← a2]; exact List.mem_map.mpr ⟨y, hy, rfl⟩)⟩
  have eb : EachIs (fun v (p : Addr × List Int) => v = Value.ref p.1) acc.toList L0 := by rw [ea]; exact each_refs L0
  refine wpAny_bind (wpAny_holding (PySem.W.list_sort_data (s := { s with heap := h'.push (seqObj "list" acc.toList.toArray 0), toks := tk }) (enc := fun y : Addr × List Int => encT y.2) hoL eb ((PySem.W.each_mem eb).mono fun v y ⟨h, hy⟩ => ⟨[], by
      rw [h]
      exact reads_isT (isT_at (hB y hy).1 fun o e => Heap.get?_push_of_some _ e), by simp⟩) ?_ ?_ (by omega) (fun b _ => ?_) fun out lo eo => ?_))
  · exact PySem.W.AllAlike.of fun b b' => PySem.W.alike_ints _ _
  · refine .inl fun d hd => ?_
    obtain ⟨y, hy, rfl⟩ := List.mem_map.mp hd
    have := (hB y hy).2
    cases e : y.2 with
    | nil => exact absurd e this
    | cons i r => exact ⟨.int i, r.map .int, rfl⟩
  · have : (encT b.2).depth = 1 := by
      show PyData.depth (.tuple (b.2.map .int)) = 1
      simp only [PyData.depth, PySem.W.depth_ints]
    rw [this]
    show X.A.units + 1 + 1 + 1 < cLine
    omega
  · obtain ⟨c, hcc⟩ := PyProof.Rows.sortedHeap_at (vs := acc.toList) (out := out.toArray) hoL
    have hv := vals_refs _ _ eo
    have hlen : ((L0.mergeSort (dataLe false fun y : Addr × List Int => encT y.2)).map fun p => V.ref p.1).length ≤ sizeLine := by
      rw [List.length_map, List.length_mergeSort]
      omega
    refine wpAny_pure ⟨_, rfl, .ref h'.objs.size, upd H h'.objs.size (.lst ((L0.mergeSort (dataLe false fun y : Addr × List Int => encT y.2)).map fun p => V.ref p.1)), I1.laid (t' := tk) (fun b u e => ?_) (Nat.le_refl _) (show ObjOk X.prog X.w _ _ _ (.lst _) from ⟨hlen, out, c, hv, hcc⟩), rfl, q _ _ (I1.hok.fresh (Nat.le_refl _)) ?_ fun y hy => a3 y ((List.mergeSort_perm _ _).mem_iff.mp hy)⟩
    · have hb : b < h'.objs.size := Heap.lt_size e
      rw [PyProof.Rows.sortedHeap_old (Nat.ne_of_lt hb) (by rw [size_push']; exact Nat.lt_succ_of_lt hb)]
      exact Heap.get?_push_of_some _ e
    · rw [← a2]
      refine sortT_eq ((List.mergeSort_perm _ _).map _) (List.pairwise_map.mpr ?_)
      exact (List.pairwise_mergeSort (fun a b c => leT_trans a.2 b.2 c.2) (fun a b => leT_total a.2 b.2) L0).imp fun h => h
end L3

namespace L3
open PySem PySem.Spec PyProof.Rows L2
/-! ### [x + d[x] for x in sorted(d)] -/
def rowsT (kvs : List ((Int × Int) × PyData)) : List (List Int) → Option (List PyData)
  | [] => some []
  | [k0, k1] :: r => match getT? kvs (k0, k1) with
    | some (.tuple ys) => if ys ≠ [] ∧ ys.length ≤ BIG then (rowsT kvs r).map (PyData.tuple (.int k0 :: .int k1 :: ys) :: ·) else none
    | _ => none
  | _ :: _ => none
theorem rowsT_len {kvs : List ((Int × Int) × PyData)} : ∀ {K : List (List Int)} {rows : List PyData}, rowsT kvs K = some rows → rows.length = K.length
  | [], rows, h => by cases h; rfl
  | k :: r, rows, h => by
    unfold rowsT at h
    split at h
    · rename_i heq; cases heq
    · rename_i k0 k1 r' heq
      cases heq
      split at h
      · split at h
        · cases e : rowsT kvs r with
          | none => rw [e] at h; cases h
          | some rs =>
            rw [e] at h
            cases h
            rw [List.length_cons, List.length_cons, rowsT_len e]
        · cases h
      · cases h
    · cases h
theorem rowsT_get {kvs : List ((Int × Int) × PyData)} : ∀ {K : List (List Int)} {rows : List PyData}, rowsT kvs K = some rows → ∀ (i : Nat) (k : List Int), K[i]? = some k → ∃ k0 k1 ys, k = [k0, k1] ∧ getT? kvs (k0, k1) = some (.tuple ys) ∧ ys ≠ [] ∧ ys.length ≤ BIG ∧ rows[i]? = some (.tuple (.int k0 :: .int k1 :: ys))
  | [], rows, h, i, k, hi => by simp at hi
  | k' :: r, rows, h, i, k, hi => by
    unfold rowsT at h
    split at h
    · rename_i heq; cases heq
    · rename_i k0 k1 r' heq
      cases heq
      split at h
      · rename_i ys hg
        split at h
        · rename_i hh
          cases e : rowsT kvs r with
          | none => rw [e] at h; cases h
          | some rs =>
            rw [e] at h
            cases h
            cases i with
            | zero =>
              simp at hi
              exact ⟨k0, k1, ys, hi.symm, hg, hh.1, hh.2, rfl⟩
            | succ i =>
              obtain ⟨a, b, c, h1, h2, h3, h4, h5⟩ := rowsT_get e i k (by simpa using hi)
              exact ⟨a, b, c, h1, h2, h3, h4, by simpa using h5⟩
        · cases h
      · cases h
    · cases h
def dRows (i j : Nat) : Ev → R PyData := fun env => (dtpOf (sget env i)).bind fun kvs => if i ≠ j ∧ j < env.length ∧ kvs.length ≤ BIG then (opt (rowsT kvs ((kvs.map fun kv => [kv.1.1, kv.1.2]).mergeSort leT))).bind fun rs => .ok (.list rs) else .bad
section
variable {X : Cx} {W : WX} {elt tg iter : Expr} {scope : Scope} {own : List (Str × Nat)} {pos p p1 p2 p3 p4 p5 : Pos} {x y : Str}
def tKeys (i : Nat) : TE := fun σ H Q => ∃ v, σ[i]? = some (some v) ∧ rSortT [v] H Q
theorem pe_keys {k : Nat} (i : Nat) (hr : Room k X.A) (hc : X.calm = true) (hm : X.mg "sorted" = none) (hN : X.N[i]? = some x := by rfl) (hv : Vis X.env.scope x := by first | exact Or.inl rfl | exact Or.inr (Or.inl rfl) | exact Or.inr (Or.inr rfl)) (hd : (x == ("__debug__" : Str)) = false := by decide) (hcd : (x == ("__classdict__" : Str)) = false := by decide)
    (hgl : Gl X "sorted" := by rfl) (he : starEach (.Name x p1 :: []) X.env = (false, eval (.Name x p1) X.env) :: starEach [] X.env := by rfl) (hpl : (backTo pos (starEach [] X.env)).any (·.1) = false := by rfl) :
    PE X (.Call (.Name "sorted" p) [.Name x p1] [] pos) (tKeys i) :=
  pre_E (pe_callB (call_sortedT hr hc) hgl hm (by decide +kernel) (pa_cons (pe_var hN hv hd hcd) pa_nil he) (by decide) (by decide) he hpl) fun σ H Q ⟨v, h1, h2⟩ => ⟨v, h1, h2⟩
def teRow (K : PySem.W.Frag) (i j : Nat) : TE := tOp (rCatT K) (tVar j) (tDGet (tVar i) (tVar j))
theorem pe_row {k : Nat} (i j : Nat) (hr : Room k X.A) (hN : X.N[i]? = some x := by rfl) (hv : Vis X.env.scope x := by first | exact Or.inl rfl | exact Or.inr (Or.inl rfl) | exact Or.inr (Or.inr rfl)) (hd : (x == ("__debug__" : Str)) = false := by decide) (hcd : (x == ("__classdict__" : Str)) = false := by decide)
    (hN2 : X.N[j]? = some y := by rfl) (hv2 : Vis X.env.scope y := by first | exact Or.inl rfl | exact Or.inr (Or.inl rfl) | exact Or.inr (Or.inr rfl)) (hd2 : (y == ("__debug__" : Str)) = false := by decide) (hcd2 : (y == ("__classdict__" : Str)) = false := by decide) :
    PE X (.BinOp (.Name y p1) .Add (.Subscript (.Name x p2) (.Name y p3) p4) p5) (teRow X.K i j) :=
  pe_op op_catT (pe_var hN2 hv2 hd2 hcd2) (pe_dget (by have := hr.un; omega) (pe_var hN hv hd hcd) (pe_var hN2 hv2 hd2 hcd2) fun _ _ => rfl)
theorem rows_run {K : PySem.W.Frag} {mg : Mg} {i j : Nat} {σ : L2.St} {H : Hp} {Q : VK} (p : tD K mg W (dRows i j) σ H Q) : tLc (iList K (tKeys i)) (gName j) tYes (teRow K i j) [j] σ H Q := by
  obtain ⟨H0, F, env, rl, p⟩ := p
  obtain ⟨kvs, e1, p⟩ := dtp_run p
  obtain ⟨a, ks, h1, h2, h3, _⟩ := rl.dtp e1
  split at p
  · rename_i hh
    obtain ⟨hij, hj, hkl⟩ := hh
    have p := Post.bind p
    generalize hK : (kvs.map fun kv => [kv.1.1, kv.1.2]).mergeSort leT = Ks at p
    cases hrw : rowsT kvs Ks with
    | none => rw [hrw] at p; exact p.elim
    | some rows =>
      rw [hrw] at p
      have p : ∀ v F' H', Grow F H F' H' → Dq F' v (.list rows) → Q v H' := p
      have hj' : j < σ.length := by rw [← rl.len]; exact hj
      refine ⟨_, h1, a, ks, kvs.map fun kv => [kv.1.1, kv.1.2], rfl, .inl h2, ?_, ?_, fun l L hl hL hT => ?_⟩
      · rw [h3.keys, List.map_map, List.map_map]
        rfl
      · intro k hk
        obtain ⟨kv, _, rfl⟩ := List.mem_map.mp hk
        exact List.cons_ne_nil _ _
      · rw [hK] at hL
        refine ⟨l, rfl, ⟨_, .inl (.inl upd_same)⟩, fun D nD => ?_⟩
        have hLl : L.length = rows.length := by rw [rowsT_len hrw, ← hL, List.length_map]
        have hKl : L.length = kvs.length := by
          have := congrArg List.length hL
          rw [List.length_map, ← hK, List.length_mergeSort, List.length_map] at this
          exact this
        have gl : Grow F H F (upd H l (.lst (L.map fun q => V.ref q.1))) := by
          have hu : Same H (upd H l (.lst (L.map fun q => V.ref q.1))) := same_upd (Same.refl _) hl
          exact ⟨Same.refl _, hu, rl.fh.trans hu, fun _ _ z => .inl z⟩
        generalize hH1 : upd H l (.lst (L.map fun q => V.ref q.1)) = H1 at nD gl
        have hl1 : H1 l = some (.lst (L.map fun q => V.ref q.1)) := by rw [← hH1]; exact upd_same
        let Pv : Nat → Hp → Prop := fun n H' => ∃ F' accV, Grow F H1 F' H' ∧ F' D = none ∧ H' D = some (.lst accV) ∧ DqA F' accV (rows.take n)
        refine ⟨fun n m H' => m = rows.length - n ∧ n ≤ rows.length ∧ Pv n H', ⟨rows.length, by simp, Nat.zero_le _, F, [], ?_, ?_, upd_same, .nil⟩, ?_⟩
        · have hu : Same H1 (upd H1 D (.lst [])) := same_upd (Same.refl _) nD
          exact ⟨Same.refl _, hu, gl.fh.trans hu, fun _ _ z => .inl z⟩
        · exact gl.fh.free nD
        · rintro n m H' ⟨rfl, hn, F', accV, gr, fD, hD, qa⟩
          by_cases hlt : n < rows.length
          · have hnL : n < L.length := by omega
            have hxl : (L.map fun q => V.ref q.1)[n]? = some (V.ref L[n].1) := by rw [List.getElem?_map, List.getElem?_eq_getElem hnL]; rfl
            refine .inr ⟨⟨_, _, .inl (.inl (gr.h _ _ hl1)), hxl⟩, Pv (n + 1), fun H'' p' => ⟨rows.length - (n + 1), by omega, rfl, hlt, p'⟩, fun x H'' ⟨eH, yy⟩ => ?_⟩
            subst eH
            have yy := yy _ (.inl (.inl (gr.h _ _ hl1)))
            rw [hxl] at yy
            cases yy
            refine ⟨(wipe_set (by simp)).trans (wipe_wipe [j] fun _ h => h), ?_⟩
            show teRow K i j ((wipe σ [j]).set j (some (V.ref L[n].1))) H'' fun y H4 => ∃ acc, H4 D = some (.lst acc) ∧ acc.length < sizeLine ∧ Pv (n + 1) (upd H4 D (.lst (acc ++ [y])))
            have hKn : Ks[n]? = some L[n].2 := by rw [← hL, List.getElem?_map, List.getElem?_eq_getElem hnL]; rfl
            obtain ⟨k0, k1, ys, hk, hg, hy0, hyl, hrn⟩ := rowsT_get hrw n _ hKn
            have htup := hT L[n] (List.getElem_mem hnL)
            rw [hk] at htup
            have htup' := gr.h _ _ (gl.h _ _ htup)
            have h4 := h3.get (k0, k1)
            rw [hg] at h4
            obtain ⟨v, e3, e4⟩ := h4
            have ea' : H'' a = some (.dT ks) := gr.h _ _ (gl.h _ _ h2)
            refine ⟨_, List.getElem?_set_self (by rw [wipe_length]; exact hj'), _, ?_, _, List.getElem?_set_self (by rw [wipe_length]; exact hj'), a, v, rfl, .inr ⟨ks, kk (k0, k1), _, .inl ea', rfl, htup', e3.symm⟩, ?_⟩
            · rw [List.getElem?_set_ne (fun z => hij z.symm)]
              show (σ.set j none)[i]? = _
              rw [List.getElem?_set_ne (fun z => hij z.symm)]
              exact h1
            · cases e4 with
              | tup q1 q2 =>
                rename_i cc vsy
                have q1' := gr.h _ _ (gl.fh _ _ q1)
                refine ⟨_, cc, [V.int k0, V.int k1], vsy, rfl, rfl, .inl (.inl htup'), .inl (.inl q1'), List.cons_ne_nil _ _, ?_, fun z => ?_, fun _ P nP => ?_⟩
                · rw [q2.length, sizeLine_eq]
                  unfold BIG at hyl
                  show 2 + ys.length ≤ _
                  omega
                · rw [z] at q2
                  cases q2
                  exact absurd rfl hy0
                · have hPD : P ≠ D := fun z => by rw [z, hD] at nP; cases nP
                  have g5 : Grow F' H'' (upd F' P (.tup ([V.int k0, V.int k1] ++ vsy))) (upd H'' P (.tup ([V.int k0, V.int k1] ++ vsy))) := Grow.new gr.fh nP
                  have g6 := gr.trans g5
                  refine ⟨accV, by rw [upd_ne (fun z => hPD z.symm)]; exact hD, ?_, upd F' P (.tup ([V.int k0, V.int k1] ++ vsy)), accV ++ [.ref P], ⟨g6.f, fun b o z => ?_, fun b o z => ?_, g6.nw⟩, ?_, upd_same, ?_⟩
                  · rw [qa.length, List.length_take]
                    exact big_lt (by omega)
                  · rw [upd_ne (ne_of_none z nD)]; exact g6.h b o z
                  · have fD2 : upd F' P (.tup ([V.int k0, V.int k1] ++ vsy)) D = none := by rw [upd_ne (fun z => hPD z.symm)]; exact fD
                    rw [upd_ne (ne_of_none z fD2)]; exact g6.fh b o z
                  · rw [upd_ne (fun z => hPD z.symm)]; exact fD
                  · rw [List.take_add_one, hrn]
                    refine (qa.mono g5.f).append (.cons (.tup upd_same ?_) .nil)
                    exact .cons (.int _) (.cons (.int _) (q2.mono (gr.f.trans g5.f)))
          · have e : n = rows.length := by omega
            subst e
            rw [List.take_length] at qa
            refine .inl ⟨⟨_, .inl (.inl (gr.h _ _ hl1)), by rw [List.length_map]; omega⟩, ?_⟩
            have hu : Same F' (upd F' D (.lst accV)) := fun b o z => by
              rw [upd_ne (ne_of_none z fD)]; exact z
            have gg := gl.trans gr
            have nD0 : H D = none := by
              cases z : H D with
              | none => rfl
              | some o => rw [gl.h _ _ z] at nD; cases nD
            refine p _ (upd F' D (.lst accV)) H' ⟨gg.f.trans hu, gg.h, fun b o z => ?_, fun b o z => ?_⟩ (.lst upd_same (qa.mono hu))
            · by_cases hb : b = D
              · subst hb; rw [upd_same] at z; rw [hD]; exact z
              · rw [upd_ne hb] at z; exact gr.fh b o z
            · by_cases hb : b = D
              · subst hb; exact .inr nD0
              · rw [upd_ne hb] at z; exact gg.nw b o z
  · exact p.elim
theorem de_rows {tg elt iter : Expr} (i j : Nat) (hc : X.calm = true) (hN : X.N.Nodup) (hi : PE X iter (tKeys i)) (ok : BlkOk X.N X.env.scope scope [(y, j)])
    (hg : ∀ (s : Shared) (H : Hp) (C : Addr) (cl : List (Str × Addr)) (fp : List Addr), PG (X.blk s H scope (compEnvC scope cl C X.env) fp) tg (gName j))
    (he : ∀ (s : Shared) (H : Hp) (C : Addr) (cl : List (Str × Addr)) (fp : List Addr), PE (X.blk s H scope (compEnvC scope cl C X.env) fp) elt (teRow X.K i j)) (hs : ∀ x, foldedSetIterable iter X.env x = pure x := by intro _; rfl) :
    DE X W (.ListComp elt [⟨tg, iter, [], 0⟩] scope pos) (dRows i j) := pre_E (pe_lc hc hN (pi_list hi) ok hg (fun _ _ _ _ _ => pts_nil) he hs) fun σ H Q p => rows_run p
end
end L3

namespace L3
open PySem PySem.Spec PyProof.Rows L2
/-! ### x.upper() -/
section
variable {X : Cx} {W : WX} {a : Expr} {f : Ev → R PyData} {ta : TE} {p1 p2 : Pos}
def tUp (ta : TE) : TE := fun σ H Q => ta σ H fun x H1 => ∃ z : Str, x = .str z ∧ z.length ≤ 5592405 ∧ Q (.str (Txt.upper z)) H1
theorem pe_upper (ha : PE X a ta) (hbase : attributeBase a "upper" X.env (eval a X.env) = eval a X.env) (hline : (p1.endLine == p2.line) = true) : PE X (.Call (.Attribute a "upper" p1) [] [] p2) (tUp ta) := by
  refine ⟨fun pins s σ H Q I h => ?_⟩
  refine J1.ev_upper hbase hline (thn (ha.run pins s σ H _ I h) fun v s1 ⟨x, H1, I1, r1, z, e, hz, q⟩ => ?_)
  subst e
  obtain ⟨t, rfl⟩ := r1
  exact ⟨z, t, rfl, hz, fun t' k => ⟨.str (Txt.upper z), H1, I1.tok _, ⟨t', rfl⟩, q⟩⟩
def upperD : PyData → R PyData
  | .str z => if z.length ≤ 1000000 then .ok (.str (Txt.upper z)) else .bad
  | _ => .bad
theorem de_upper (ha : DE X W a f) (hbase : attributeBase a "upper" X.env (eval a X.env) = eval a X.env := by rfl) (hline : (p1.endLine == p2.line) = true := by rfl) : DE X W (.Call (.Attribute a "upper" p1) [] [] p2) (d1 upperD f) := pre_E (pe_upper ha hbase hline) fun σ H Q ⟨H0, F, env, rl, p⟩ => by
  refine ⟨H0, F, env, rl, (Post.bind p).mono (fun d p1 v F1 H1 g1 q => ?_) fun c p1 => p1⟩
  cases d <;> first | exact p1.elim | skip
  rename_i z
  cases q
  have p2 : Post (if z.length ≤ 1000000 then R.ok (PyData.str (Txt.upper z)) else .bad) _ _ := p1
  split at p2
  · rename_i hh
    exact ⟨z, rfl, by omega, p2 _ F1 H1 g1 (.str _)⟩
  · exact p2.elim
end
end L3

namespace K01
open PySem PySem.Spec PyProof.Rows L2 L3 LB
def top (i : Nat) : Stmt := PySem.Challenge.pw_longbook_k01_books.main.body.getD i (.Pass ⟨0, 0, 0, 0⟩)
structure Txt (mg : Str → Option Value) : Prop where
  all : mg "all" = none
  bool : mg "bool" = none
  int : mg "int" = none
  isinstance : mg "isinstance" = none
  len : mg "len" = none
  list : mg "list" = none
  range : mg "range" = none
  str : mg "str" = none
  tuple : mg "tuple" = none
  zip : mg "zip" = none
abbrev N_is_text : List Str := ["thing", "sign"]
abbrev s_is_text : Stmt := top 1
theorem sc_is_text : FnScope N_is_text ["thing"] (defScope s_is_text) := ⟨rfl, rfl, rfl, by decide +kernel, rfl, by decide +kernel, by decide +kernel⟩
theorem c_is_text {P : Program} {w : World} {K : PySem.W.Frag} {mg : Str → Option Value} {base : Heap} {fa : Addr} {fd : FuncData} (T : Txt mg) (F : FnP K "is_text" s_is_text fa fd) (hm : mg "is_text" = some (.ref fa)) : Cal P w K mg base 1 "is_text" ["thing"] m_is_text :=
  cal_mk F hm sc_is_text (fun _ _ _ _ _ _ us hl => match us, hl with | [_], _ => rfl) fun cdv A outer s H E hr => by
    have nd := sc_is_text.nd
    exact (dss_cons (ds_if (DW.dt (dw_or (dt_not (dt_tr (DE.db (de_isinst tyOk_str T.isinstance T.str boot_str (DE.db (de_var 0)))))) (dw_or (dt_not (dt_chain op_leA opd_le op_leA opd_le (DE.db de_int) (DE.db (de_len T.len (DE.db (de_var 0)))) (DE.db de_int))) (dw_or1 (dt_not (dt_tr (DE.db (de_all rfl T.all (DE.db (de_lc (own := [("sign", 1)]) rfl nd (di_seq (de_var 0)) (blkOk_by (N := N_is_text) (sc := defScope s_is_text) (by decide +kernel)) (fun _ _ _ _ _ => (dg_name 1 nd)) (fun _ _ _ _ _ => dts_nil) (fun _ _ _ _ _ => (de_chain op_leA opd_le op_leA opd_le (DE.db de_str) (DE.db (de_var 1)) (DE.db de_str))))))))))))) (dss_one (ds_ret de_bl)) dss_nil)
  (dss_one (ds_ret (de_and (de_cmp (op_eqA hr) (opd_eq _) (DE.db (de_var 0)) (DE.db (de_sm1 PySem.F.slot_str_strip PySem.F.type_str_strip mt_stripChars md_strip (de_var 0) de_str))) (de_one (de_cmp (op_notInA hr) (opd_notIn _) (DE.db de_str) (DE.db (de_var 0))))))))
abbrev N_is_chapter : List Str := ["thing", "text"]
abbrev s_is_chapter : Stmt := top 2
theorem sc_is_chapter : FnScope N_is_chapter ["thing"] (defScope s_is_chapter) := ⟨rfl, rfl, rfl, by decide +kernel, rfl, by decide +kernel, by decide +kernel⟩
theorem c_is_chapter {P : Program} {w : World} {K : PySem.W.Frag} {mg : Str → Option Value} {base : Heap} {fa : Addr} {fd : FuncData} (T : Txt mg) (F : FnP K "is_chapter" s_is_chapter fa fd) (hm : mg "is_chapter" = some (.ref fa)) (C_is_text : Cal P w K mg base 1 "is_text" ["thing"] m_is_text) : Cal P w K mg base 2 "is_chapter" ["thing"] m_is_chapter :=
  cal_mk F hm sc_is_chapter (fun _ _ _ _ _ _ us hl => match us, hl with | [_], _ => rfl) fun cdv A outer s H E hr => by
    have nd := sc_is_chapter.nd
    exact (dss_cons (ds_if (DW.dt (dw_or (dt_not (dt_tr (DE.db (de_isinst tyOk_tuple T.isinstance T.tuple boot_tuple (DE.db (de_var 0)))))) (dw_or (dt_cmp (op_neA hr) (opd_ne _) (DE.db (de_len T.len (DE.db (de_var 0)))) (DE.db de_int)) (dw_or (dt_not (dt_tr (DE.db (by exact (de_callC C_is_text (hr.mono (by decide)) (takes_of rfl rfl rfl rfl) (da_cons (de_ix (DE.db (de_var 0)) (DE.db de_int)) da_nil)))))) (dw_or1 (dt_not (dt_tr (DE.db (de_isinst tyOk_tuple T.isinstance T.tuple boot_tuple (DE.db (de_ix (DE.db (de_var 0)) (DE.db de_int)))))))))))) (dss_one (ds_ret de_bl)) dss_nil)
  (dss_one (ds_ret (de_and (de_chain op_leA opd_le op_leA opd_le (DE.db de_int) (DE.db (de_len T.len (DE.db (de_ix (DE.db (de_var 0)) (DE.db de_int))))) (DE.db de_int)) (de_one (de_all rfl T.all (DE.db (de_lc (own := [("text", 1)]) rfl nd (di_seq (de_ix (DE.db (de_var 0)) (DE.db de_int))) (blkOk_by (N := N_is_chapter) (sc := defScope s_is_chapter) (by decide +kernel)) (fun _ _ _ _ _ => (dg_name 1 nd)) (fun _ _ _ _ _ => dts_nil) (fun _ _ _ _ _ => (by exact (de_callC C_is_text (hr.mono (by decide)) takes0 (da_cons (de_var 1) da_nil))))))))))))
abbrev N_is_book : List Str := ["thing", "one"]
abbrev s_is_book : Stmt := top 3
theorem sc_is_book : FnScope N_is_book ["thing"] (defScope s_is_book) := ⟨rfl, rfl, rfl, by decide +kernel, rfl, by decide +kernel, by decide +kernel⟩
theorem c_is_book {P : Program} {w : World} {K : PySem.W.Frag} {mg : Str → Option Value} {base : Heap} {fa : Addr} {fd : FuncData} (T : Txt mg) (F : FnP K "is_book" s_is_book fa fd) (hm : mg "is_book" = some (.ref fa)) (C_is_chapter : Cal P w K mg base 2 "is_chapter" ["thing"] m_is_chapter) : Cal P w K mg base 3 "is_book" ["thing"] m_is_book :=
  cal_mk F hm sc_is_book (fun _ _ _ _ _ _ us hl => match us, hl with | [_], _ => rfl) fun cdv A outer s H E hr => by
    have nd := sc_is_book.nd
    exact (dss_one (ds_ret (de_and (de_isinst tyOk_tuple T.isinstance T.tuple boot_tuple (DE.db (de_var 0))) (de_and (de_chain op_leA opd_le op_leA opd_le (DE.db de_int) (DE.db (de_len T.len (DE.db (de_var 0)))) (DE.db de_int)) (de_one (de_all rfl T.all (DE.db (de_lc (own := [("one", 1)]) rfl nd (di_seq (de_var 0)) (blkOk_by (N := N_is_book) (sc := defScope s_is_book) (by decide +kernel)) (fun _ _ _ _ _ => (dg_name 1 nd)) (fun _ _ _ _ _ => dts_nil) (fun _ _ _ _ _ => (by exact (de_callC C_is_chapter (hr.mono (by decide)) takes0 (da_cons (de_var 1) da_nil))))))))))))
abbrev N_law_cell : List Str := ["_law_script", "_law_k"]
abbrev s_law_cell : Stmt := top 5
theorem sc_law_cell : FnScope N_law_cell ["_law_script", "_law_k"] (defScope s_law_cell) := ⟨rfl, rfl, rfl, by decide +kernel, rfl, by decide +kernel, by decide +kernel⟩
theorem c_law_cell {P : Program} {w : World} {K : PySem.W.Frag} {mg : Str → Option Value} {base : Heap} {fa : Addr} {fd : FuncData} (T : Txt mg) (F : FnP K "_law_cell" s_law_cell fa fd) (hm : mg "_law_cell" = some (.ref fa)) : Cal P w K mg base 1 "_law_cell" ["_law_script", "_law_k"] m_law_cell :=
  cal_mk F hm sc_law_cell (fun _ _ _ _ _ _ us hl => match us, hl with | [_, _], _ => rfl) fun cdv A outer s H E hr => by
    have nd := sc_law_cell.nd
    exact (dss_cons (ds_if (dt_cmp (op_ltA hr) (opd_lt _) (DE.db (de_var 1)) (DE.db (de_scrLen 0 T.len))) (dss_one (ds_ret (de_scrIx 0 (de_var 1)))) dss_nil)
  (dss_one (ds_ret de_int)))
abbrev N_law_mix : List Str := ["_law_cell_here", "_law_prime", "_law_many", "_law_blend"]
abbrev s_law_mix : Stmt := top 6
theorem sc_law_mix : FnScope N_law_mix ["_law_cell_here", "_law_prime", "_law_many"] (defScope s_law_mix) := ⟨rfl, rfl, rfl, by decide +kernel, rfl, by decide +kernel, by decide +kernel⟩
theorem c_law_mix {P : Program} {w : World} {K : PySem.W.Frag} {mg : Str → Option Value} {base : Heap} {fa : Addr} {fd : FuncData} (T : Txt mg) (F : FnP K "_law_mix" s_law_mix fa fd) (hm : mg "_law_mix" = some (.ref fa)) : Cal P w K mg base 1 "_law_mix" ["_law_cell_here", "_law_prime", "_law_many"] m_law_mix :=
  cal_mk F hm sc_law_mix (fun _ _ _ _ _ _ us hl => match us, hl with | [_, _, _], _ => rfl) fun cdv A outer s H E hr => by
    have nd := sc_law_mix.nd
    exact (dss_cons (ds_set 3 nd (de_mod (DE.db (de_mul (DE.db (de_var 0)) (DE.db de_int))) (DE.db (de_var 1))))
  (dss_one (ds_ret (de_mod (DE.db (de_mod (DE.db (de_mul (DE.db (de_var 3)) (DE.db (de_add (DE.db (de_var 3)) (DE.db de_int))))) (DE.db (de_var 1)))) (DE.db (de_var 2))))))
abbrev N_law_same : List Str := ["_law_found", "_law_due", "_law_one", "_law_other"]
abbrev s_law_same : Stmt := top 7
theorem sc_law_same : FnScope N_law_same ["_law_found", "_law_due"] (defScope s_law_same) := ⟨rfl, rfl, rfl, by decide +kernel, rfl, by decide +kernel, by decide +kernel⟩
theorem cr_law_same {P : Program} {w : World} {K : PySem.W.Frag} {mg : Str → Option Value} {base : Heap} {fa : Addr} {fd : FuncData} (T : Txt mg) (F : FnP K "_law_same" s_law_same fa fd) (hm : mg "_law_same" = some (.ref fa)) : ∀ k : Nat, Cal P w K mg base (0 + k + 1) "_law_same" ["_law_found", "_law_due"] (m_law_same k)
  | 0 => cal_void F hm (fun _ _ _ _ _ _ us hl => match us, hl with | [_, _], _ => rfl)
  | k + 1 => by
    have REC := cr_law_same (P := P) (w := w) (base := base) T F hm   k
    exact cal_mk F hm sc_law_same (fun _ _ _ _ _ _ us hl => match us, hl with | [_, _], _ => rfl) fun cdv A outer s H E hr => by
      have nd := sc_law_same.nd
      exact (dss_cons (ds_if (dt_tr (DE.db (de_isinst tyOk_tuple T.isinstance T.tuple boot_tuple (DE.db (de_var 1))))) (dss_cons (ds_if (DW.dt (dw_or (dt_not (dt_tr (DE.db (de_isinst tyOk_tuple T.isinstance T.tuple boot_tuple (DE.db (de_var 0)))))) (dw_or1 (dt_cmp (op_neA hr) (opd_ne _) (DE.db (de_len T.len (DE.db (de_var 0)))) (DE.db (de_len T.len (DE.db (de_var 1)))))))) (dss_one (ds_ret de_bl)) dss_nil)
  (dss_one (ds_ret (de_all rfl T.all (DE.db (de_lc (own := [("_law_one", 2), ("_law_other", 3)]) rfl nd (di_zip T.zip (de_var 0) (de_var 1)) (blkOk_by (N := N_law_same) (sc := defScope s_law_same) (by decide +kernel)) (fun _ _ _ _ _ => (dg_tup 2 rfl (dgs_cons (dg_name 2 nd) (dgs_cons (dg_name 3 nd) dgs_nil)))) (fun _ _ _ _ _ => dts_nil) (fun _ _ _ _ _ => (by exact (de_callC REC hr takes0 (da_cons (de_var 2) (da_cons (de_var 3) da_nil))))))))))) dss_nil)
  (dss_cons (ds_if (dt_cmp op_isA opd_is (DE.db (de_var 1)) (DE.db de_non)) (dss_one (ds_ret (de_cmp op_isA opd_is (DE.db (de_var 0)) (DE.db de_non)))) dss_nil)
  (dss_cons (ds_if (DW.dt (dw_or (dt_tr (DE.db (de_isinst tyOk_bool T.isinstance T.bool boot_bool (DE.db (de_var 1))))) (dw_or1 (dt_tr (DE.db (de_isinst tyOk_bool T.isinstance T.bool boot_bool (DE.db (de_var 0)))))))) (dss_one (ds_ret (de_and (de_isinst tyOk_bool T.isinstance T.bool boot_bool (DE.db (de_var 1))) (de_and (de_isinst tyOk_bool T.isinstance T.bool boot_bool (DE.db (de_var 0))) (de_one (de_cmp (op_eqA hr) (opd_eq _) (DE.db (de_var 0)) (DE.db (de_var 1)))))))) dss_nil)
  (dss_one (ds_ret (de_and (de_isinst2 tyOk_int tyOk_str T.isinstance T.int T.str boot_int boot_str (DE.db (de_var 0))) (de_one (de_cmp (op_eqA hr) (opd_eq _) (DE.db (de_var 0)) (DE.db (de_var 1))))))))))
abbrev N_law_text : List Str := ["_law_cell_here", "_law_signs", "_law_many", "_law_found", "_law_word", "_law_long", "_law_piece", "_law_k"]
abbrev s_law_text : Stmt := top 8
theorem sc_law_text : FnScope N_law_text ["_law_cell_here"] (defScope s_law_text) := ⟨rfl, rfl, rfl, by decide +kernel, rfl, by decide +kernel, by decide +kernel⟩
theorem c_law_text {P : Program} {w : World} {K : PySem.W.Frag} {mg : Str → Option Value} {base : Heap} {fa : Addr} {fd : FuncData} (T : Txt mg) (F : FnP K "_law_text" s_law_text fa fd) (hm : mg "_law_text" = some (.ref fa)) (C_law_mix : Cal P w K mg base 1 "_law_mix" ["_law_cell_here", "_law_prime", "_law_many"] m_law_mix) : Cal P w K mg base 2 "_law_text" ["_law_cell_here"] m_law_text :=
  cal_mk F hm sc_law_text (fun _ _ _ _ _ _ us hl => match us, hl with | [_], _ => rfl) fun cdv A outer s H E hr => by
    have nd := sc_law_text.nd
    exact (dss_cons (ds_set 1 nd de_str)
  (dss_cons (ds_set 2 nd (de_add (DE.db de_int) (DE.db (by exact (de_callC C_law_mix (hr.mono (by decide)) (takes_of rfl rfl rfl rfl) (da_cons (de_var 0) (da_cons de_int (da_cons de_int da_nil))))))))
  (dss_cons (ds_if (dt_cmp (op_eqA hr) (opd_eq _) (DE.db (by exact (de_callC C_law_mix (hr.mono (by decide)) (takes_of rfl rfl rfl rfl) (da_cons (de_var 0) (da_cons de_int (da_cons de_int da_nil)))))) (DE.db de_int)) (dss_one (ds_set 2 nd (de_ix (DE.db (de_tup (dl_cons de_int (dl_cons de_int (dl_cons de_int (dl_cons de_int dl_nil)))))) (DE.db (by exact (de_callC C_law_mix (hr.mono (by decide)) (takes_of rfl rfl rfl rfl) (da_cons (de_var 0) (da_cons de_int (da_cons de_int da_nil))))))))) dss_nil)
  (dss_cons (ds_set 3 nd de_str)
  (dss_cons (ds_set 4 nd de_int)
  (dss_cons (ds_while 1000 (passes_of rfl) (dt_cmp (op_ltA hr) (opd_lt _) (DE.db (de_len T.len (DE.db (de_var 3)))) (DE.db (de_var 2))) (dss_cons (ds_set 4 nd (de_add (DE.db (de_var 4)) (DE.db de_int)))
  (dss_cons (ds_set 5 nd (de_add (DE.db de_int) (DE.db (by exact (de_callC C_law_mix (hr.mono (by decide)) (takes_of rfl rfl rfl rfl) (da_cons (de_add (DE.db (de_var 0)) (DE.db (de_mul (DE.db de_int) (DE.db (de_var 4))))) (da_cons de_int (da_cons (de_ix (DE.db (de_tup (dl_cons de_int (dl_cons de_int (dl_cons de_int dl_nil))))) (DE.db (by exact (de_callC C_law_mix (hr.mono (by decide)) (takes_of rfl rfl rfl rfl) (da_cons (de_var 0) (da_cons de_int (da_cons de_int da_nil))))))) da_nil))))))))
  (dss_cons (ds_set 6 nd (de_sm1 PySem.F.slot_str_join PySem.F.type_str_join mt_join (md_join _) de_str (de_lc (own := [("_law_k", 7)]) rfl nd (di_range1 T.range (de_var 5)) (blkOk_by (N := N_law_text) (sc := defScope s_law_text) (by decide +kernel)) (fun _ _ _ _ _ => (dg_name 7 nd)) (fun _ _ _ _ _ => dts_nil) (fun _ _ _ _ _ => (de_ix (DE.db (de_var 1)) (DE.db (by exact (de_callC C_law_mix (hr.mono (by decide)) takes0 (da_cons (de_add (DE.db (de_add (DE.db (de_var 0)) (DE.db (de_mul (DE.db de_int) (DE.db (de_var 4)))))) (DE.db (de_mul (DE.db de_int) (DE.db (de_var 7))))) (da_cons de_int (da_cons (de_len T.len (DE.db (de_var 1))) da_nil)))))))))))
  (dss_one (ds_set 3 nd (de_add (DE.db (de_add (DE.db (de_var 3)) (DE.db (de_mul (DE.db de_str) (DE.db (de_intc T.int (DE.db (de_cmp (op_neA hr) (opd_ne _) (DE.db (de_var 3)) (DE.db de_str))))))))) (DE.db (de_var 6)))))))))
  (dss_one (ds_ret (de_sm1 PySem.F.slot_str_strip PySem.F.type_str_strip mt_stripChars md_strip (de_slice (DE.db (de_var 3)) do_none (do_some (de_var 2))) de_str)))))))))
abbrev N_law_book : List Str := ["_law_cell_here", "_law_found", "_law_k", "_law_seed", "_law_paragraphs", "_law_j"]
abbrev s_law_book : Stmt := top 9
theorem sc_law_book : FnScope N_law_book ["_law_cell_here"] (defScope s_law_book) := ⟨rfl, rfl, rfl, by decide +kernel, rfl, by decide +kernel, by decide +kernel⟩
theorem c_law_book {P : Program} {w : World} {K : PySem.W.Frag} {mg : Str → Option Value} {base : Heap} {fa : Addr} {fd : FuncData} (T : Txt mg) (F : FnP K "_law_book" s_law_book fa fd) (hm : mg "_law_book" = some (.ref fa)) (C_law_mix : Cal P w K mg base 1 "_law_mix" ["_law_cell_here", "_law_prime", "_law_many"] m_law_mix) (C_law_text : Cal P w K mg base 2 "_law_text" ["_law_cell_here"] m_law_text) : Cal P w K mg base 3 "_law_book" ["_law_cell_here"] m_law_book :=
  cal_mk F hm sc_law_book (fun _ _ _ _ _ _ us hl => match us, hl with | [_], _ => rfl) fun cdv A outer s H E hr => by
    have nd := sc_law_book.nd
    exact (dss_cons (ds_ownL 1 nd dl_nil)
  (dss_cons (ds_for (vs := [2]) (gN_noexc _) (passes_of rfl) rfl (di_range1 T.range (de_add (DE.db de_int) (DE.db (by exact (de_callC C_law_mix (hr.mono (by decide)) (takes_of rfl rfl rfl rfl) (da_cons (de_var 0) (da_cons de_int (da_cons de_int da_nil)))))))) (dg_name 2 nd)
  (dss_cons (ds_set 3 nd (de_add (DE.db (de_var 0)) (DE.db (de_mul (DE.db de_int) (DE.db (de_var 2))))))
  (dss_cons (ds_setLc (own := [("_law_j", 5)]) 4 rfl nd (di_range1 T.range (de_add (DE.db de_int) (DE.db (by exact (de_callC C_law_mix (hr.mono (by decide)) (takes_of rfl rfl rfl rfl) (da_cons (de_var 3) (da_cons de_int (da_cons de_int da_nil)))))))) (blkOk_by (N := N_law_book) (sc := defScope s_law_book) (by decide +kernel)) (fun _ _ _ _ _ => (dg_name 5 nd)) (fun _ _ _ _ _ => dts_nil) (fun _ _ _ _ _ => (by exact (de_callC C_law_text (hr.mono (by decide)) takes0 (da_cons (de_add (DE.db (de_add (DE.db (de_var 3)) (DE.db (de_mul (DE.db de_int) (DE.db (de_var 5)))))) (DE.db de_int)) da_nil)))) (sw_true rfl rfl rfl (by decide +kernel)))
  (dss_one (ds_append 1 (de_tup (dl_cons (de_sm1 PySem.F.slot_str_strip PySem.F.type_str_strip mt_stripChars md_strip (de_slice (DE.db (by exact (de_callC C_law_text (hr.mono (by decide)) (takes_of rfl rfl rfl rfl) (da_cons (de_add (DE.db (de_var 3)) (DE.db de_int)) da_nil)))) do_none (do_some de_int)) de_str) (dl_cons (de_tuplec T.tuple (DE.db (de_var 4))) dl_nil))))))))
  (dss_one (ds_ret (de_tuplec T.tuple (db_own 1))))))
abbrev N_law_odd : List Str := ["_law_thing", "_law_cell_here", "_law_some", "_law_at"]
abbrev s_law_odd : Stmt := top 10
def b_law_odd (REC : List Sl → R PyData) : Ev → R Out := (sSeq (sIf (dAnd (dTr (d1 (isTD "tuple") (dVar 0))) (dAnd (dTest (d2 neD (dVar 0) (dTup lNil))) (dTest (d2 gtA (dCall 3 m_law_mix (aCons (dVar 1) (aCons (dC (.int 9781)) (aCons (dC (.int 5)) aNil)))) (dC (.int 0)))))) (sSeq (sAsg (dCall 3 m_law_mix (aCons (dVar 1) (aCons (dC (.int 9769)) (aCons (d1 lenD (dVar 0)) aNil)))) (gN 3))
  (sRet (d2 addD (d2 addD (dSlice (dVar 0) oNone (oSome (dVar 3))) (dTup (lCons (dCall 2 REC (aCons (d2 ixD (dVar 0) (dVar 3)) (aCons (d2 addD (d2 addD (dVar 1) (d2 mulD (dC (.int 31)) (dVar 3))) (dC (.int 7))) aNil))) lNil))) (dSlice (dVar 0) (oSome (d2 addD (dVar 3) (dC (.int 1)))) oNone)))) sNil)
  (sSeq (sAsg (dLst (lCons (dC .none) (lCons (dC (.bool true)) (lCons (dC (.bool false)) (lCons (dC (.int 0)) (lCons (dC (.int 1)) (lCons (d1 negD (dC (.int 1))) (lCons (dC (.int 2)) (lCons (dC (.int 7)) (lCons (dC (.int 10)) (lCons (dC (.int 1000)) (lCons (dC (.str "")) (lCons (dC (.str "a")) (lCons (dC (.str "A")) (lCons (dTup lNil) (lCons (dTup (lCons (dC (.str "a")) lNil)) (lCons (dLst (lCons (dC (.int 1)) lNil)) lNil))))))))))))))))) (gN 2))
  (sSeq (sIf (dTr (d1 (isTD "tuple") (dVar 0))) (sAsg (d2 addD (dVar 2) (d2 mulD (dLst (lCons (d1 listD (dVar 0)) (lCons (d2 addD (dVar 0) (dSlice (dVar 0) (oSome (d1 negD (dC (.int 1)))) oNone)) (lCons (dSlice (dVar 0) oNone (oSome (d1 negD (dC (.int 1))))) (lCons (dRev (dVar 0) oNone oNone (oSome (d1 negD (dC (.int 1))))) (lCons (dSlice (dVar 0) (oSome (dC (.int 1))) oNone) (lCons (dTup (lCons (dVar 0) lNil)) lNil))))))) (dC (.int 2)))) (gN 2)) (sIf (dTr (d1 (isTD "str") (dVar 0))) (sAsg (d2 addD (dVar 2) (d2 mulD (dLst (lCons (d2 addD (dVar 0) (dC (.str "a"))) (lCons (dSlice (dVar 0) oNone (oSome (d1 negD (dC (.int 1))))) (lCons (d1 upperD (dVar 0)) (lCons (d2 addD (dVar 0) (dC (.str " "))) (lCons (d2 mulD (dVar 0) (dC (.int 2))) (lCons (dLst (lCons (dVar 0) lNil)) (lCons (d2 addD (dVar 0) (dSlice (dVar 0) oNone (oSome (dC (.int 1))))) lNil)))))))) (dC (.int 2)))) (gN 2)) (sIf (dTr (d1 (isTD "int") (dVar 0))) (sAsg (d2 addD (dVar 2) (d2 mulD (dLst (lCons (d2 addD (dVar 0) (dC (.int 1))) (lCons (d2 subD (dVar 0) (dC (.int 1))) (lCons (d2 subD (dC (.int 0)) (dVar 0)) (lCons (dTup (lCons (dVar 0) lNil)) (lCons (d2 addD (dVar 0) (dC (.int 2))) (lCons (d2 mulD (dVar 0) (dC (.int 2))) lNil))))))) (dC (.int 2)))) (gN 2)) sNil)))
  (sRet (d2 ixD (dVar 2) (dCall 3 m_law_mix (aCons (dVar 1) (aCons (dC (.int 9749)) (aCons (d1 lenD (dVar 2)) aNil)))))))))
def m_law_odd : Nat → List Sl → R PyData
  | 0 => badM
  | k + 1 => den 4 (b_law_odd (m_law_odd k))
theorem sc_law_odd : FnScope N_law_odd ["_law_thing", "_law_cell_here"] (defScope s_law_odd) := ⟨rfl, rfl, rfl, by decide +kernel, rfl, by decide +kernel, by decide +kernel⟩
theorem cr_law_odd {P : Program} {w : World} {K : PySem.W.Frag} {mg : Str → Option Value} {base : Heap} {fa : Addr} {fd : FuncData} (T : Txt mg) (F : FnP K "_law_odd" s_law_odd fa fd) (hm : mg "_law_odd" = some (.ref fa)) (C_law_mix : Cal P w K mg base 1 "_law_mix" ["_law_cell_here", "_law_prime", "_law_many"] m_law_mix) : ∀ k : Nat, Cal P w K mg base (1 + k + 1) "_law_odd" ["_law_thing", "_law_cell_here"] (m_law_odd k)
  | 0 => cal_void F hm (fun _ _ _ _ _ _ us hl => match us, hl with | [_, _], _ => rfl)
  | k + 1 => by
    have REC := cr_law_odd (P := P) (w := w) (base := base) T F hm C_law_mix  k
    exact cal_mk F hm sc_law_odd (fun _ _ _ _ _ _ us hl => match us, hl with | [_, _], _ => rfl) fun cdv A outer s H E hr => by
      have nd := sc_law_odd.nd
      exact (dss_cons (ds_if (DW.dt (dw_and (dt_tr (DE.db (de_isinst tyOk_tuple T.isinstance T.tuple boot_tuple (DE.db (de_var 0))))) (dw_and (dt_cmp (op_neA hr) (opd_ne _) (DE.db (de_var 0)) (DE.db (de_tup dl_nil))) (dw_and1 (dt_cmp (op_gtA hr) (opd_gtA _) (DE.db (by exact (de_callC C_law_mix (hr.mono (by omega)) (takes_of rfl rfl rfl rfl) (da_cons (de_var 1) (da_cons de_int (da_cons de_int da_nil)))))) (DE.db de_int)))))) (dss_cons (ds_set 3 nd (by exact (de_callC C_law_mix (hr.mono (by omega)) (takes_of rfl rfl rfl rfl) (da_cons (de_var 1) (da_cons de_int (da_cons (de_len T.len (DE.db (de_var 0))) da_nil))))))
  (dss_one (ds_ret (de_add (DE.db (de_add (DE.db (de_slice (DE.db (de_var 0)) do_none (do_some (de_var 3)))) (DE.db (de_tup (dl_cons (by exact (de_callC REC hr (takes_of rfl rfl rfl rfl) (da_cons (de_ix (DE.db (de_var 0)) (DE.db (de_var 3))) (da_cons (de_add (DE.db (de_add (DE.db (de_var 1)) (DE.db (de_mul (DE.db de_int) (DE.db (de_var 3)))))) (DE.db de_int)) da_nil)))) dl_nil))))) (DE.db (de_slice (DE.db (de_var 0)) (do_some (de_add (DE.db (de_var 3)) (DE.db de_int))) do_none)))))) dss_nil)
  (dss_cons (ds_set 2 nd (de_lst (dl_cons de_non (dl_cons de_bl (dl_cons de_bl (dl_cons de_int (dl_cons de_int (dl_cons (de_neg (DE.db de_int)) (dl_cons de_int (dl_cons de_int (dl_cons de_int (dl_cons de_int (dl_cons de_str (dl_cons de_str (dl_cons de_str (dl_cons (de_tup dl_nil) (dl_cons (de_tup (dl_cons de_str dl_nil)) (dl_cons (de_lst (dl_cons de_int dl_nil)) dl_nil))))))))))))))))))
  (dss_cons (ds_if (dt_tr (DE.db (de_isinst tyOk_tuple T.isinstance T.tuple boot_tuple (DE.db (de_var 0))))) (dss_one (ds_set 2 nd (de_add (DE.db (de_var 2)) (DE.db (de_mul (DE.db (de_lst (dl_cons (de_listc T.list (DE.db (de_var 0))) (dl_cons (de_add (DE.db (de_var 0)) (DE.db (de_slice (DE.db (de_var 0)) (do_some (de_neg (DE.db de_int))) do_none))) (dl_cons (de_slice (DE.db (de_var 0)) do_none (do_some (de_neg (DE.db de_int)))) (dl_cons (de_rev (DE.db (de_var 0)) do_none do_none (do_some (de_neg (DE.db de_int)))) (dl_cons (de_slice (DE.db (de_var 0)) (do_some de_int) do_none) (dl_cons (de_tup (dl_cons (de_var 0) dl_nil)) dl_nil)))))))) (DE.db de_int)))))) (dss_one (ds_if (dt_tr (DE.db (de_isinst tyOk_str T.isinstance T.str boot_str (DE.db (de_var 0))))) (dss_one (ds_set 2 nd (de_add (DE.db (de_var 2)) (DE.db (de_mul (DE.db (de_lst (dl_cons (de_add (DE.db (de_var 0)) (DE.db de_str)) (dl_cons (de_slice (DE.db (de_var 0)) do_none (do_some (de_neg (DE.db de_int)))) (dl_cons (de_upper (de_var 0)) (dl_cons (de_add (DE.db (de_var 0)) (DE.db de_str)) (dl_cons (de_mul (DE.db (de_var 0)) (DE.db de_int)) (dl_cons (de_lst (dl_cons (de_var 0) dl_nil)) (dl_cons (de_add (DE.db (de_var 0)) (DE.db (de_slice (DE.db (de_var 0)) do_none (do_some de_int)))) dl_nil))))))))) (DE.db de_int)))))) (dss_one (ds_if (dt_tr (DE.db (de_isinst tyOk_int T.isinstance T.int boot_int (DE.db (de_var 0))))) (dss_one (ds_set 2 nd (de_add (DE.db (de_var 2)) (DE.db (de_mul (DE.db (de_lst (dl_cons (de_add (DE.db (de_var 0)) (DE.db de_int)) (dl_cons (de_sub (DE.db (de_var 0)) (DE.db de_int)) (dl_cons (de_sub (DE.db de_int) (DE.db (de_var 0))) (dl_cons (de_tup (dl_cons (de_var 0) dl_nil)) (dl_cons (de_add (DE.db (de_var 0)) (DE.db de_int)) (dl_cons (de_mul (DE.db (de_var 0)) (DE.db de_int)) dl_nil)))))))) (DE.db de_int)))))) dss_nil)))))
  (dss_one (ds_ret (de_ix (DE.db (de_var 2)) (DE.db (by exact (de_callC C_law_mix (hr.mono (by omega)) (takes_of rfl rfl rfl rfl) (da_cons (de_var 1) (da_cons de_int (da_cons (de_len T.len (DE.db (de_var 2))) da_nil))))))))))))
abbrev N_law_is_text : List Str := ["_law_thing", "_law_sign"]
abbrev s_law_is_text : Stmt := top 11
theorem sc_law_is_text : FnScope N_law_is_text ["_law_thing"] (defScope s_law_is_text) := ⟨rfl, rfl, rfl, by decide +kernel, rfl, by decide +kernel, by decide +kernel⟩
theorem c_law_is_text {P : Program} {w : World} {K : PySem.W.Frag} {mg : Str → Option Value} {base : Heap} {fa : Addr} {fd : FuncData} (T : Txt mg) (F : FnP K "_law_is_text" s_law_is_text fa fd) (hm : mg "_law_is_text" = some (.ref fa)) : Cal P w K mg base 1 "_law_is_text" ["_law_thing"] m_law_is_text :=
  cal_mk F hm sc_law_is_text (fun _ _ _ _ _ _ us hl => match us, hl with | [_], _ => rfl) fun cdv A outer s H E hr => by
    have nd := sc_law_is_text.nd
    exact (dss_cons (ds_if (DW.dt (dw_or (dt_not (dt_tr (DE.db (de_isinst tyOk_str T.isinstance T.str boot_str (DE.db (de_var 0)))))) (dw_or1 (dt_not (dt_chain (op_ltA hr) (opd_lt _) (op_ltA hr) (opd_lt _) (DE.db de_int) (DE.db (de_len T.len (DE.db (de_var 0)))) (DE.db de_int)))))) (dss_one (ds_ret de_bl)) dss_nil)
  (dss_cons (ds_if (DW.dt (dw_or (dt_cmp (op_eqA hr) (opd_eq _) (DE.db (de_ix (DE.db (de_var 0)) (DE.db de_int))) (DE.db de_str)) (dw_or (dt_cmp (op_eqA hr) (opd_eq _) (DE.db (de_ix (DE.db (de_var 0)) (DE.db (de_neg (DE.db de_int))))) (DE.db de_str)) (dw_or1 (dt_cmp (op_inA hr) (opd_in _) (DE.db de_str) (DE.db (de_var 0))))))) (dss_one (ds_ret de_bl)) dss_nil)
  (dss_one (ds_ret (de_cmp (op_eqA hr) (opd_eq _) (DE.db (de_lc (own := [("_law_sign", 1)]) rfl nd (di_seq (de_var 0)) (blkOk_by (N := N_law_is_text) (sc := defScope s_law_is_text) (by decide +kernel)) (fun _ _ _ _ _ => (dg_name 1 nd)) (fun _ _ _ _ _ => (dts_one (dt_not (dt_chain op_leA opd_le op_leA opd_le (DE.db de_str) (DE.db (de_var 1)) (DE.db de_str))))) (fun _ _ _ _ _ => (de_var 1)))) (DE.db (de_lst dl_nil)))))))
abbrev N_law_is_book : List Str := ["_law_thing", "_law_chapter", "_law_text_here"]
abbrev s_law_is_book : Stmt := top 12
theorem sc_law_is_book : FnScope N_law_is_book ["_law_thing"] (defScope s_law_is_book) := ⟨rfl, rfl, rfl, by decide +kernel, rfl, by decide +kernel, by decide +kernel⟩
theorem c_law_is_book {P : Program} {w : World} {K : PySem.W.Frag} {mg : Str → Option Value} {base : Heap} {fa : Addr} {fd : FuncData} (T : Txt mg) (F : FnP K "_law_is_book" s_law_is_book fa fd) (hm : mg "_law_is_book" = some (.ref fa)) (C_law_is_text : Cal P w K mg base 1 "_law_is_text" ["_law_thing"] m_law_is_text) : Cal P w K mg base 2 "_law_is_book" ["_law_thing"] m_law_is_book :=
  cal_mk F hm sc_law_is_book (fun _ _ _ _ _ _ us hl => match us, hl with | [_], _ => rfl) fun cdv A outer s H E hr => by
    have nd := sc_law_is_book.nd
    exact (dss_cons (ds_if (DW.dt (dw_or (dt_not (dt_tr (DE.db (de_isinst tyOk_tuple T.isinstance T.tuple boot_tuple (DE.db (de_var 0)))))) (dw_or1 (dt_not (dt_chain (op_ltA hr) (opd_lt _) (op_ltA hr) (opd_lt _) (DE.db de_int) (DE.db (de_len T.len (DE.db (de_var 0)))) (DE.db de_int)))))) (dss_one (ds_ret de_bl)) dss_nil)
  (dss_cons (ds_for (vs := [1]) (gN_noexc _) (passes_of rfl) rfl (di_seq (de_var 0)) (dg_name 1 nd)
  (dss_cons (ds_if (DW.dt (dw_or (dt_not (dt_tr (DE.db (de_isinst tyOk_tuple T.isinstance T.tuple boot_tuple (DE.db (de_var 1)))))) (dw_or (dt_cmp (op_neA hr) (opd_ne _) (DE.db (de_len T.len (DE.db (de_var 1)))) (DE.db de_int)) (dw_or1 (dt_not (dt_tr (DE.db (de_isinst tyOk_tuple T.isinstance T.tuple boot_tuple (DE.db (de_ix (DE.db (de_var 1)) (DE.db de_int))))))))))) (dss_one (ds_ret de_bl)) dss_nil)
  (dss_cons (ds_if (DW.dt (dw_or (dt_not (dt_tr (DE.db (by exact (de_callC C_law_is_text (hr.mono (by decide)) (takes_of rfl rfl rfl rfl) (da_cons (de_ix (DE.db (de_var 1)) (DE.db de_int)) da_nil)))))) (dw_or1 (dt_not (dt_chain (op_ltA hr) (opd_lt _) (op_ltA hr) (opd_lt _) (DE.db de_int) (DE.db (de_len T.len (DE.db (de_ix (DE.db (de_var 1)) (DE.db de_int))))) (DE.db de_int)))))) (dss_one (ds_ret de_bl)) dss_nil)
  (dss_one (ds_if (dt_cmp (op_neA hr) (opd_ne _) (DE.db (de_lc (own := [("_law_text_here", 2)]) rfl nd (di_seq (de_ix (DE.db (de_var 1)) (DE.db de_int))) (blkOk_by (N := N_law_is_book) (sc := defScope s_law_is_book) (by decide +kernel)) (fun _ _ _ _ _ => (dg_name 2 nd)) (fun _ _ _ _ _ => (dts_one (dt_not (dt_tr (DE.db (by exact (de_callC C_law_is_text (hr.mono (by decide)) takes0 (da_cons (de_var 2) da_nil)))))))) (fun _ _ _ _ _ => (de_var 2)))) (DE.db (de_lst dl_nil))) (dss_one (ds_ret de_bl)) dss_nil)))))
  (dss_one (ds_ret de_bl))))
abbrev N_law : List Str := ["_law_script", "_law_k", "_law_great", "_law_cell_here", "_law_book_here", "_law_j", "_law_at", "_law_some", "_law_bad", "_law_odd_here", "_law_title", "_law_paragraphs", "_law_told", "_law_due"]
abbrev s_law : Stmt := top 13
def b_law : Ev → R Out := (sSeq (sFor (iRange1 (dC (.int 6))) (gN 1)
  (sSeq (sAsg (d2 addD (dCall 2 m_law_cell (aScr 0 (aCons (dVar 1) aNil))) (d2 mulD (dC (.int 3)) (dVar 1))) (gN 3))
  (sSeq (sAsg (dCall 1 m_law_book (aCons (dVar 3) aNil)) (gN 4))
  (sSeq (sIf (dOr (dTest (d2 isnD (dCall 1 m_is_book (aCons (dVar 4) aNil)) (dC (.bool true)))) (dTest (d2 isnD (dCall 1 m_is_book (aCons (d1 listD (dVar 4)) aNil)) (dC (.bool false))))) (sRet (dC (.bool false))) sNil)
  (sSeq (sFor (iRange1 (dC (.int 16))) (gN 5)
  (sSeq (sAsg (dCall 2 (m_law_odd 8) (aCons (dVar 4) (aCons (d2 addD (d2 addD (dCall 2 m_law_cell (aScr 0 (aCons (dC (.int 9)) aNil))) (d2 mulD (dC (.int 17)) (dVar 5))) (d2 mulD (dC (.int 3)) (dVar 1))) aNil))) (gN 9))
  (sSeq (sPar 12 13 (lCons (dCall 1 m_is_book (aCons (dVar 9) aNil)) (lCons (dCall 1 m_law_is_book (aCons (dVar 9) aNil)) lNil)))
  (sIf (dOr (dAnd (dTest (d2 isnD (dVar 12) (dC (.bool true)))) (dTr (dVar 13))) (dAnd (dTest (d2 isnD (dVar 12) (dC (.bool false)))) (dNot (dTr (dVar 13))))) (sRet (dC (.bool false))) sNil))))
  (sSeq (sAsg (dCall 3 m_law_mix (aCons (dVar 3) (aCons (dC (.int 9857)) (aCons (d1 lenD (dVar 4)) aNil)))) (gN 6))
  (sSeq (sAsg (d2 ixD (dVar 4) (dVar 6)) (gT 2 (gsC (gN 10) (gsC (gN 11) gsN))))
  (sSeq (sAsg (dLst (lCons (dC .none) (lCons (dC (.int 5)) (lCons (dC (.str "a")) (lCons (dTup lNil) (lCons (dTup (lCons (dVar 10) lNil)) lNil)))))) (gN 7))
  (sSeq (sAsg (d2 addD (dVar 7) (dLst (lCons (dTup (lCons (dVar 10) (lCons (dTup lNil) lNil))) (lCons (dTup (lCons (dVar 10) (lCons (d1 listD (dVar 11)) lNil))) lNil)))) (gN 7))
  (sSeq (sAsg (d2 addD (dVar 7) (dLst (lCons (dLst (lCons (dVar 10) (lCons (dVar 11) lNil))) (lCons (dTup (lCons (dVar 10) (lCons (dVar 11) (lCons (dC (.int 0)) lNil)))) lNil)))) (gN 7))
  (sSeq (sAsg (d2 addD (dVar 7) (dLst (lCons (dTup (lCons (dVar 10) (lCons (d2 ixD (dVar 11) (dC (.int 0))) lNil))) (lCons (dTup (lCons (dVar 10) (lCons (d2 mulD (dTup (lCons (d2 ixD (dVar 11) (dC (.int 0))) lNil)) (dC (.int 5))) lNil))) (lCons (dTup (lCons (dC .none) (lCons (dVar 11) lNil))) lNil))))) (gN 7))
  (sSeq (sAsg (d2 addD (dVar 7) (dLst (lCons (dTup (lCons (dC (.str "")) (lCons (dVar 11) lNil))) (lCons (dTup (lCons (dC (.int 5)) (lCons (dVar 11) lNil))) lNil)))) (gN 7))
  (sSeq (sFor (iItems1 (dTup (lCons (dC (.str "")) (lCons (dC (.str " a")) (lCons (dC (.str "a ")) (lCons (dC (.str "a  b")) (lCons (dC (.str "a\n")) (lCons (d2 mulD (dC (.str "x")) (dC (.int 61))) (lCons (dC .none) (lCons (dC (.int 5)) (lCons (dTup (lCons (dC (.str "a")) lNil)) (lCons (dC (.str "\t")) lNil)))))))))))) (gN 8)
  (sAsg (d2 addD (dVar 7) (dLst (lCons (dTup (lCons (dVar 8) (lCons (dVar 11) lNil))) (lCons (dTup (lCons (dVar 10) (lCons (d2 addD (dSlice (dVar 11) oNone (oSome (dC (.int 3)))) (dTup (lCons (dVar 8) lNil))) lNil))) lNil)))) (gN 7)))
  (sFor (iItems1 (dVar 7)) (gN 8)
  (sIf (dTest (d2 isnD (dCall 1 m_is_book (aCons (d2 addD (d2 addD (dSlice (dVar 4) oNone (oSome (dVar 6))) (dTup (lCons (dVar 8) lNil))) (dSlice (dVar 4) (oSome (d2 addD (dVar 6) (dC (.int 1)))) oNone)) aNil)) (dC (.bool false)))) (sRet (dC (.bool false))) sNil)))))))))))))))
  (sSeq (sAsg (dTup (lCons (d2 mulD (dC (.str "x")) (dC (.int 60))) (lCons (d2 mulD (dTup (lCons (d2 mulD (dC (.str "y")) (dC (.int 60))) lNil)) (dC (.int 4))) lNil))) (gN 2))
  (sSeq (sIf (dOr (dTest (d2 isnD (dCall 1 m_is_book (aCons (d2 mulD (dTup (lCons (dVar 2) lNil)) (dC (.int 3))) aNil)) (dC (.bool true)))) (dTest (d2 isnD (dCall 1 m_is_book (aCons (d2 mulD (dTup (lCons (dVar 2) lNil)) (dC (.int 4))) aNil)) (dC (.bool false))))) (sRet (dC (.bool false))) sNil)
  (sRet (dAndV (d2 isD (dCall 1 m_is_book (aCons (dTup lNil) aNil)) (dC (.bool false))) (dAndV (d2 isD (dCall 1 m_is_book (aCons (dC .none) aNil)) (dC (.bool false))) (d2 isD (dCall 1 m_is_book (aCons (dTup (lCons (dTup (lCons (dC (.str "a")) (lCons (dTup (lCons (dC (.str "~ !")) lNil)) lNil))) lNil)) aNil)) (dC (.bool true)))))))))
def m_law : List Sl → R PyData := den 14 b_law
theorem sc_law : FnScope N_law ["_law_script"] (defScope s_law) := ⟨rfl, rfl, rfl, by decide +kernel, rfl, by decide +kernel, by decide +kernel⟩
theorem c_law {P : Program} {w : World} {K : PySem.W.Frag} {mg : Str → Option Value} {base : Heap} {fa : Addr} {fd : FuncData} (T : Txt mg) (F : FnP K "law" s_law fa fd) (hm : mg "law" = some (.ref fa)) (C_law_cell : Cal P w K mg base 1 "_law_cell" ["_law_script", "_law_k"] m_law_cell) (C_law_book : Cal P w K mg base 3 "_law_book" ["_law_cell_here"] m_law_book) (C_is_book : Cal P w K mg base 3 "is_book" ["thing"] m_is_book) (C_law_odd : Cal P w K mg base 10 "_law_odd" ["_law_thing", "_law_cell_here"] (m_law_odd 8)) (C_law_is_book : Cal P w K mg base 2 "_law_is_book" ["_law_thing"] m_law_is_book) (C_law_mix : Cal P w K mg base 1 "_law_mix" ["_law_cell_here", "_law_prime", "_law_many"] m_law_mix) : Fn P w K mg base 11 fa fd ["_law_script"] m_law :=
  fn_okD F sc_law fun cdv A outer s H E hr => by
    have nd := sc_law.nd
    exact (dss_cons (ds_for (vs := [1]) (gN_noexc _) (passes_of rfl) rfl (di_range1 T.range de_int) (dg_name 1 nd)
  (dss_cons (ds_set 3 nd (de_add (DE.db (by exact (de_callC C_law_cell (hr.mono (by decide)) (takes_of rfl rfl rfl rfl) (da_scr 0 (da_cons (de_var 1) da_nil))))) (DE.db (de_mul (DE.db de_int) (DE.db (de_var 1))))))
  (dss_cons (ds_set 4 nd (by exact (de_callC C_law_book (hr.mono (by decide)) (takes_of rfl rfl rfl rfl) (da_cons (de_var 3) da_nil))))
  (dss_cons (ds_if (DW.dt (dw_or (dt_cmp op_isnA opd_isn (DE.db (by exact (de_callC C_is_book (hr.mono (by decide)) (takes_of rfl rfl rfl rfl) (da_cons (de_var 4) da_nil)))) (DE.db de_bl)) (dw_or1 (dt_cmp op_isnA opd_isn (DE.db (by exact (de_callC C_is_book (hr.mono (by decide)) (takes_of rfl rfl rfl rfl) (da_cons (de_listc T.list (DE.db (de_var 4))) da_nil)))) (DE.db de_bl))))) (dss_one (ds_ret de_bl)) dss_nil)
  (dss_cons (ds_for (vs := [5]) (gN_noexc _) (passes_of rfl) rfl (di_range1 T.range de_int) (dg_name 5 nd)
  (dss_cons (ds_set 9 nd (by exact (de_callC C_law_odd (hr.mono (by decide)) (takes_of rfl rfl rfl rfl) (da_cons (de_var 4) (da_cons (de_add (DE.db (de_add (DE.db (by exact (de_callC C_law_cell (hr.mono (by decide)) (takes_of rfl rfl rfl rfl) (da_scr 0 (da_cons de_int da_nil))))) (DE.db (de_mul (DE.db de_int) (DE.db (de_var 5)))))) (DE.db (de_mul (DE.db de_int) (DE.db (de_var 1))))) da_nil)))))
  (dss_cons (ds_par 12 13 rfl nd (by decide) (dl_cons (by exact (de_callC C_is_book (hr.mono (by decide)) (takes_of rfl rfl rfl rfl) (da_cons (de_var 9) da_nil))) (dl_cons (by exact (de_callC C_law_is_book (hr.mono (by decide)) (takes_of rfl rfl rfl rfl) (da_cons (de_var 9) da_nil))) dl_nil)))
  (dss_one (ds_if (DW.dt (dw_or (DW.dt (dw_and (dt_cmp op_isnA opd_isn (DE.db (de_var 12)) (DE.db de_bl)) (dw_and1 (dt_tr (DE.db (de_var 13)))))) (dw_or1 (DW.dt (dw_and (dt_cmp op_isnA opd_isn (DE.db (de_var 12)) (DE.db de_bl)) (dw_and1 (dt_not (dt_tr (DE.db (de_var 13)))))))))) (dss_one (ds_ret de_bl)) dss_nil)))))
  (dss_cons (ds_set 6 nd (by exact (de_callC C_law_mix (hr.mono (by decide)) (takes_of rfl rfl rfl rfl) (da_cons (de_var 3) (da_cons de_int (da_cons (de_len T.len (DE.db (de_var 4))) da_nil))))))
  (dss_cons (ds_asg (vs := [10, 11]) (gT_noexc (gsC_noexc (gN_noexc _) (gsC_noexc (gN_noexc _) gsN_noexc))) (de_ix (DE.db (de_var 4)) (DE.db (de_var 6))) (dg_tup 2 rfl (dgs_cons (dg_name 10 nd) (dgs_cons (dg_name 11 nd) dgs_nil))))
  (dss_cons (ds_set 7 nd (de_lst (dl_cons de_non (dl_cons de_int (dl_cons de_str (dl_cons (de_tup dl_nil) (dl_cons (de_tup (dl_cons (de_var 10) dl_nil)) dl_nil)))))))
  (dss_cons (ds_set 7 nd (de_add (DE.db (de_var 7)) (DE.db (de_lst (dl_cons (de_tup (dl_cons (de_var 10) (dl_cons (de_tup dl_nil) dl_nil))) (dl_cons (de_tup (dl_cons (de_var 10) (dl_cons (de_listc T.list (DE.db (de_var 11))) dl_nil))) dl_nil))))))
  (dss_cons (ds_set 7 nd (de_add (DE.db (de_var 7)) (DE.db (de_lst (dl_cons (de_lst (dl_cons (de_var 10) (dl_cons (de_var 11) dl_nil))) (dl_cons (de_tup (dl_cons (de_var 10) (dl_cons (de_var 11) (dl_cons de_int dl_nil)))) dl_nil))))))
  (dss_cons (ds_set 7 nd (de_add (DE.db (de_var 7)) (DE.db (de_lst (dl_cons (de_tup (dl_cons (de_var 10) (dl_cons (de_ix (DE.db (de_var 11)) (DE.db de_int)) dl_nil))) (dl_cons (de_tup (dl_cons (de_var 10) (dl_cons (de_mul (DE.db (de_tup (dl_cons (de_ix (DE.db (de_var 11)) (DE.db de_int)) dl_nil))) (DE.db de_int)) dl_nil))) (dl_cons (de_tup (dl_cons de_non (dl_cons (de_var 11) dl_nil))) dl_nil)))))))
  (dss_cons (ds_set 7 nd (de_add (DE.db (de_var 7)) (DE.db (de_lst (dl_cons (de_tup (dl_cons de_str (dl_cons (de_var 11) dl_nil))) (dl_cons (de_tup (dl_cons de_int (dl_cons (de_var 11) dl_nil))) dl_nil))))))
  (dss_cons (ds_for (vs := [8]) (gN_noexc _) (passes_of rfl) rfl (di_seq (de_tup (dl_cons de_str (dl_cons de_str (dl_cons de_str (dl_cons de_str (dl_cons de_str (dl_cons (de_mul (DE.db de_str) (DE.db de_int)) (dl_cons de_non (dl_cons de_int (dl_cons (de_tup (dl_cons de_str dl_nil)) (dl_cons de_str dl_nil)))))))))))) (dg_name 8 nd)
  (dss_one (ds_set 7 nd (de_add (DE.db (de_var 7)) (DE.db (de_lst (dl_cons (de_tup (dl_cons (de_var 8) (dl_cons (de_var 11) dl_nil))) (dl_cons (de_tup (dl_cons (de_var 10) (dl_cons (de_add (DE.db (de_slice (DE.db (de_var 11)) do_none (do_some de_int))) (DE.db (de_tup (dl_cons (de_var 8) dl_nil)))) dl_nil))) dl_nil))))))))
  (dss_one (ds_for (vs := [8]) (gN_noexc _) (passes_of rfl) rfl (di_seq (de_var 7)) (dg_name 8 nd)
  (dss_one (ds_if (dt_cmp op_isnA opd_isn (DE.db (by exact (de_callC C_is_book (hr.mono (by decide)) (takes_of rfl rfl rfl rfl) (da_cons (de_add (DE.db (de_add (DE.db (de_slice (DE.db (de_var 4)) do_none (do_some (de_var 6)))) (DE.db (de_tup (dl_cons (de_var 8) dl_nil))))) (DE.db (de_slice (DE.db (de_var 4)) (do_some (de_add (DE.db (de_var 6)) (DE.db de_int))) do_none))) da_nil)))) (DE.db de_bl)) (dss_one (ds_ret de_bl)) dss_nil)))))))))))))))))
  (dss_cons (ds_set 2 nd (de_tup (dl_cons (de_mul (DE.db de_str) (DE.db de_int)) (dl_cons (de_mul (DE.db (de_tup (dl_cons (de_mul (DE.db de_str) (DE.db de_int)) dl_nil))) (DE.db de_int)) dl_nil))))
  (dss_cons (ds_if (DW.dt (dw_or (dt_cmp op_isnA opd_isn (DE.db (by exact (de_callC C_is_book (hr.mono (by decide)) (takes_of rfl rfl rfl rfl) (da_cons (de_mul (DE.db (de_tup (dl_cons (de_var 2) dl_nil))) (DE.db de_int)) da_nil)))) (DE.db de_bl)) (dw_or1 (dt_cmp op_isnA opd_isn (DE.db (by exact (de_callC C_is_book (hr.mono (by decide)) (takes_of rfl rfl rfl rfl) (da_cons (de_mul (DE.db (de_tup (dl_cons (de_var 2) dl_nil))) (DE.db de_int)) da_nil)))) (DE.db de_bl))))) (dss_one (ds_ret de_bl)) dss_nil)
  (dss_one (ds_ret (de_and (de_cmp op_isA opd_is (DE.db (by exact (de_callC C_is_book (hr.mono (by decide)) (takes_of rfl rfl rfl rfl) (da_cons (de_tup dl_nil) da_nil)))) (DE.db de_bl)) (de_and (de_cmp op_isA opd_is (DE.db (by exact (de_callC C_is_book (hr.mono (by decide)) (takes_of rfl rfl rfl rfl) (da_cons de_non da_nil)))) (DE.db de_bl)) (de_one (de_cmp op_isA opd_is (DE.db (by exact (de_callC C_is_book (hr.mono (by decide)) (takes_of rfl rfl rfl rfl) (da_cons (de_tup (dl_cons (de_tup (dl_cons de_str (dl_cons (de_tup (dl_cons de_str dl_nil)) dl_nil))) dl_nil)) da_nil)))) (DE.db de_bl))))))))))
end K01

namespace LB
open PySem PySem.Spec PyProof.Rows L2 L3
/-! ### the combinators' equations -/
theorem nrfl {α : Sort _} {a b : α} (h : a = b) : a = b := h
theorem BIG_eq : BIG = 1000000 := nrfl rfl
theorem LIM_eq : LIM = 18446744073709551616 := nrfl rfl
theorem sget_cons_zero (s : Sl) (e : Ev) : sget (s :: e) 0 = s := nrfl rfl
theorem sget_cons_succ (s : Sl) (e : Ev) (i : Nat) : sget (s :: e) (i + 1) = sget e i := nrfl rfl
theorem ev_dVar (i : Nat) (env : Ev) : dVar i env = match sget env i with | .val d => .ok d | _ => .bad := nrfl rfl
theorem ev_dOwn (i : Nat) (env : Ev) : dOwn i env = match sget env i with | .val d => .ok d | .own xs => .ok (.list xs) | _ => .bad := nrfl rfl
theorem ev_dC (d : PyData) (env : Ev) : dC d env = .ok d := nrfl rfl
theorem ev_d2 (g : PyData → PyData → R PyData) (f1 f2 : Ev → R PyData) (env : Ev) : d2 g f1 f2 env = (f1 env).bind fun x => (f2 env).bind fun y => g x y := nrfl rfl
theorem ev_d1 (g : PyData → R PyData) (f1 : Ev → R PyData) (env : Ev) : d1 g f1 env = (f1 env).bind g := nrfl rfl
theorem ev_dTest (f1 : Ev → R PyData) (env : Ev) : dTest f1 env = (f1 env).bind asBool := nrfl rfl
theorem ev_dChain (g1 g2 : PyData → PyData → R PyData) (f1 f2 f3 : Ev → R PyData) (env : Ev) : dChain g1 g2 f1 f2 f3 env = (f1 env).bind fun x => (f2 env).bind fun y => (g1 x y).bind fun z => (asBool z).bind fun k => if k = true then (f3 env).bind fun w => g2 y w else .ok (.bool false) := nrfl rfl
theorem ev_dChain3 (g1 g2 g3 : PyData → PyData → R PyData) (f1 f2 f3 f4 : Ev → R PyData) (env : Ev) : dChain3 g1 g2 g3 f1 f2 f3 f4 env = (f1 env).bind fun x => (f2 env).bind fun y => (g1 x y).bind fun z => (asBool z).bind fun k => if k = true then (f3 env).bind fun w => (g2 y w).bind fun z2 => (asBool z2).bind fun k2 => if k2 = true then (f4 env).bind fun u => g3 w u else .ok (.bool false) else .ok (.bool false) := nrfl rfl
theorem ev_dTr (f1 : Ev → R PyData) (env : Ev) : dTr f1 env = (f1 env).bind truthD := nrfl rfl
theorem ev_dNot (t : Ev → R Bool) (env : Ev) : dNot t env = (t env).bind fun b => .ok (!b) := nrfl rfl
theorem ev_dAnd (t u : Ev → R Bool) (env : Ev) : dAnd t u env = (t env).bind fun b => if b = true then u env else .ok false := nrfl rfl
theorem ev_dOr (t u : Ev → R Bool) (env : Ev) : dOr t u env = (t env).bind fun b => if b = true then .ok true else u env := nrfl rfl
theorem ev_dAndV (f1 f2 : Ev → R PyData) (env : Ev) : dAndV f1 f2 env = (f1 env).bind fun x => (asBool x).bind fun k => if k = true then f2 env else .ok (.bool false) := nrfl rfl
theorem ev_dOrV (f1 f2 : Ev → R PyData) (env : Ev) : dOrV f1 f2 env = (f1 env).bind fun x => (asBool x).bind fun k => if k = true then .ok (.bool true) else f2 env := nrfl rfl
theorem ev_dNotV (f1 : Ev → R PyData) (env : Ev) : dNotV f1 env = (f1 env).bind fun x => (asBool x).bind fun k => .ok (.bool (!k)) := nrfl rfl
theorem ev_dIf (t : Ev → R Bool) (f1 f2 : Ev → R PyData) (env : Ev) : dIf t f1 f2 env = (t env).bind fun b => if b = true then f1 env else f2 env := nrfl rfl
theorem ev_oNone  (env : Ev) : oNone env = .ok none := nrfl rfl
theorem ev_oSome (f1 : Ev → R PyData) (env : Ev) : oSome f1 env = (f1 env).bind fun x => (asInt x).bind fun i => .ok (some i) := nrfl rfl
theorem ev_dSlice (f1 : Ev → R PyData) (l u : Ev → R (Option Int)) (env : Ev) : dSlice f1 l u env = (f1 env).bind fun x => (l env).bind fun lo => (u env).bind fun hi => sliceD x lo hi := nrfl rfl
theorem ev_dSlice3 (f1 : Ev → R PyData) (l u c : Ev → R (Option Int)) (env : Ev) : dSlice3 f1 l u c env = (f1 env).bind fun x => (l env).bind fun lo => (u env).bind fun hi => (c env).bind fun st => sliceSD x lo hi st := nrfl rfl
theorem ev_lNil  (env : Ev) : lNil env = .ok [] := nrfl rfl
theorem ev_lCons (f1 : Ev → R PyData) (l : Ev → R (List PyData)) (env : Ev) : lCons f1 l env = (f1 env).bind fun d => (l env).bind fun ds => .ok (d :: ds) := nrfl rfl
theorem ev_dTup (l : Ev → R (List PyData)) (env : Ev) : dTup l env = (l env).bind mkTup := nrfl rfl
theorem ev_dLst (l : Ev → R (List PyData)) (env : Ev) : dLst l env = (l env).bind mkLst := nrfl rfl
theorem ev_aNil  (env : Ev) : aNil env = .ok [] := nrfl rfl
theorem ev_aCons (f1 : Ev → R PyData) (l : Ev → R (List Sl)) (env : Ev) : aCons f1 l env = (f1 env).bind fun d => (l env).bind fun ds => .ok (.val d :: ds) := nrfl rfl
theorem ev_aScr (i : Nat) (l : Ev → R (List Sl)) (env : Ev) : aScr i l env = (scrAt i env).bind fun d => (l env).bind fun ds => .ok (d :: ds) := nrfl rfl
theorem ev_dCall (n : Nat) (m : List Sl → R PyData) (l : Ev → R (List Sl)) (env : Ev) : dCall n m l env = (l env).bind fun ss => (guardLen n ss).bind m := nrfl rfl
theorem ev_dScrLen (i : Nat) (env : Ev) : dScrLen i env = match sget env i with | .scr ns => .ok (.int ns.length) | _ => .bad := nrfl rfl
theorem ev_dScrIx (i : Nat) (f1 : Ev → R PyData) (env : Ev) : dScrIx i f1 env = match sget env i with | .scr ns => (f1 env).bind fun x => (asInt x).bind fun k => (opt (atI ns k)).bind fun z => .ok (.int z) | _ => .bad := nrfl rfl
theorem ev_dSm1 (g : Str → PyData → R PyData) (f1 f2 : Ev → R PyData) (env : Ev) : dSm1 g f1 f2 env = (f1 env).bind fun x => (asStr x).bind fun a => (f2 env).bind fun y => g a y := nrfl rfl
theorem ev_iItems1 (f1 : Ev → R PyData) (env : Ev) : iItems1 f1 env = (f1 env).bind itemsD := nrfl rfl
theorem ev_iRange1 (f1 : Ev → R PyData) (env : Ev) : iRange1 f1 env = (f1 env).bind fun x => (asInt x).bind fun n => if n.natAbs ≤ BIG then .ok (rangeL 0 n.toNat) else .bad := nrfl rfl
theorem ev_iRange2 (f1 f2 : Ev → R PyData) (env : Ev) : iRange2 f1 f2 env = (f1 env).bind fun x => (f2 env).bind fun y => (asInt x).bind fun m => (asInt y).bind fun n => if m.natAbs ≤ BIG ∧ n.natAbs ≤ BIG then .ok (rangeL m (n - m).toNat) else .bad := nrfl rfl
theorem ev_iRange3 (f1 f2 f3 : Ev → R PyData) (env : Ev) : iRange3 f1 f2 f3 env = (f1 env).bind fun x => (f2 env).bind fun y => (f3 env).bind fun z => (asInt x).bind fun m => (asInt y).bind fun n => (asInt z).bind fun c => if m.natAbs ≤ BIG ∧ n.natAbs ≤ BIG ∧ 0 < c ∧ c < 1000 then .ok (rangeC m c (rangeN m n c)) else .bad := nrfl rfl
theorem ev_dPgLen (i : Nat) (env : Ev) : dPgLen i env = (pgsOf (sget env i)).bind fun xss => (lastD xss).bind fun xs => .ok (.int xs.length) := nrfl rfl
theorem ev_sPgApp (i : Nat) (f1 : Ev → R PyData) (env : Ev) : sPgApp i f1 env = (pgsOf (sget env i)).bind fun xss => (lastD xss).bind fun xs => (f1 env).bind fun d => if xs.length ≤ BIG then .ok (.nx (putB i (.pgs (xss.dropLast ++ [xs ++ [d]])) env)) else .bad := nrfl rfl
theorem ev_sPgPush (i : Nat) (l : Ev → R (List PyData)) (env : Ev) : sPgPush i l env = (pgsOf (sget env i)).bind fun xss => (l env).bind fun ds => if ds.length ≤ BIG ∧ xss.length ≤ BIG then .ok (.nx (putB i (.pgs (xss ++ [ds])) env)) else .bad := nrfl rfl
theorem ev_sPgNil (i : Nat) (env : Ev) : sPgNil i env = .ok (.nx (env.set i (.big (.pgs [])))) := nrfl rfl
theorem ev_sPgNew (i : Nat) (l : Ev → R (List PyData)) (env : Ev) : sPgNew i l env = (l env).bind fun ds => if ds.length ≤ BIG then .ok (.nx (env.set i (.big (.pgs [ds])))) else .bad := nrfl rfl
theorem ev_sFreezeP (i : Nat) (g : Ev → R Out) (env : Ev) : sFreezeP i g env = (freezeP i env).bind g := nrfl rfl
theorem ev_sCallB (j n : Nat) (m : Big → List Sl → R ResB) (l : Ev → R (List Sl)) (tgt : Ev → PyData → Ev) (env : Ev) : sCallB j n m l tgt env = (bigOf (sget env j)).bind fun b => (l env).bind fun ss => if ss.length + 1 = n ∧ ss.all plain = true then (noexc (m b ss)).bind fun r => match r.1 with | .ok d => .ok (.nx (tgt (putB j r.2 env) d)) | .error c => (match sget env j with | .slf _ => if j = 0 then .ok (.ex r.2 c) else .bad | _ => .exc c) else .bad := nrfl rfl
theorem ev_dFld (i : Nat) (c f : Str) (env : Ev) : dFld i c f env = (insOf c (sget env i)).bind fun fs => (match fs.lookup f with | some (.d z) => .ok z | _ => .bad) := nrfl rfl
theorem ev_dFldTr (i : Nat) (c f : Str) (env : Ev) : dFldTr i c f env = (insOf c (sget env i)).bind fun fs => (match fs.lookup f with | some (.l xs) => .ok (!xs.isEmpty) | _ => .bad) := nrfl rfl
theorem ev_dMeth (i : Nat) (c m : Str) (n : Nat) (mf : List Sl → R PyData) (l : Ev → R (List Sl)) (env : Ev) : dMeth i c m n mf l env = (insOf c (sget env i)).bind fun fs => if m ∉ fs.map (·.1) then (l env).bind fun ss => if ss.length + 1 = n then mf (.bor (.ins c fs) :: ss) else .bad else .bad := nrfl rfl
theorem ev_sFldSet (i : Nat) (c f : Str) (g : Ev → R PyData) (env : Ev) : sFldSet i c f g env = (g env).bind fun z => (bigI c (sget env i)).bind fun fs => if (fs.map (·.1)).Nodup ∧ fs.length < 100 then .ok (.nx (putB i (.ins c (putFd f (.d z) fs)) env)) else .bad := nrfl rfl
theorem ev_sFldNil (i : Nat) (c f : Str) (env : Ev) : sFldNil i c f env = (bigI c (sget env i)).bind fun fs => if (fs.map (·.1)).Nodup ∧ fs.length < 100 then .ok (.nx (putB i (.ins c (putFd f (.l []) fs)) env)) else .bad := nrfl rfl
theorem ev_sFldApp (i : Nat) (c f : Str) (g : Ev → R PyData) (env : Ev) : sFldApp i c f g env = (bigI c (sget env i)).bind fun fs => (match fs.lookup f with | some (.l xs) => (g env).bind fun z => if (fs.map (·.1)).Nodup ∧ xs.length ≤ BIG then .ok (.nx (putB i (.ins c (putFd f (.l (xs ++ [z])) fs)) env)) else .bad | _ => .bad) := nrfl rfl
theorem ev_sFldPop (i : Nat) (c f f2 : Str) (env : Ev) : sFldPop i c f f2 env = (bigI c (sget env i)).bind fun fs => (match fs.lookup f2 with | some (.l xs) => (match xs.getLast? with | some z => if (fs.map (·.1)).Nodup ∧ fs.length < 100 ∧ i < env.length then .ok (.nx (putB i (.ins c (putFd f (.d z) (putFd f2 (.l xs.dropLast) fs))) env)) else .bad | none => .bad) | _ => .bad) := nrfl rfl
theorem ev_sMethB (j : Nat) (c m : Str) (n : Nat) (mf : Big → List Sl → R ResB) (l : Ev → R (List Sl)) (tgt : Ev → PyData → Ev) (env : Ev) : sMethB j c m n mf l tgt env = (bigI c (sget env j)).bind fun fs => if m ∉ fs.map (·.1) then sCallB j n mf l tgt env else .bad := nrfl rfl
theorem ev_sMake (i : Nat) (c : Str) (n : Nat) (mf : Big → List Sl → R ResB) (l : Ev → R (List Sl)) (env : Ev) : sMake i c n mf l env = (l env).bind fun ss => if ss.length + 1 = n ∧ ss.all plain = true then (noexc (mf (.ins c []) ss)).bind fun r => (match r.1 with | .ok .none => .ok (.nx (env.set i (.big r.2))) | _ => .bad) else .bad := nrfl rfl
theorem ev_sRaiseB (c : Str) (env : Ev) : sRaiseB c env = match sget env 0 with | .slf b => .ok (.ex b c) | _ => .bad := nrfl rfl
theorem ev_dOrX (f1 f2 : Ev → R PyData) (env : Ev) : dOrX f1 f2 env = (f1 env).bind fun x => (truthD x).bind fun k => if k = true then .ok x else f2 env := nrfl rfl
theorem ev_dDctIx (i : Nat) (f1 : Ev → R PyData) (env : Ev) : dDctIx i f1 env = (dctOf (sget env i)).bind fun kvs => (f1 env).bind fun d => (asStr d).bind fun k => opt (getD? kvs k) := nrfl rfl
theorem ev_dDctGet (i : Nat) (f1 f2 : Ev → R PyData) (env : Ev) : dDctGet i f1 f2 env = (dctOf (sget env i)).bind fun kvs => (f1 env).bind fun d => (asStr d).bind fun k => (f2 env).bind fun z => .ok ((getD? kvs k).getD z) := nrfl rfl
theorem ev_dDctNin (i : Nat) (f1 : Ev → R PyData) (env : Ev) : dDctNin i f1 env = (f1 env).bind fun d => (asStr d).bind fun k => (dctOf (sget env i)).bind fun kvs => .ok (!(getD? kvs k).isSome) := nrfl rfl
theorem ev_dDctKeys (i : Nat) (env : Ev) : dDctKeys i env = (dctOf (sget env i)).bind fun kvs => if kvs.length < 64 then .ok (.list ((sortS (kvs.map (·.1))).map .str)) else .bad := nrfl rfl
theorem ev_sDctNew (i : Nat) (env : Ev) : sDctNew i env = .ok (.nx (env.set i (.big (.dct [])))) := nrfl rfl
theorem ev_sDctSet (i : Nat) (f1 f2 : Ev → R PyData) (env : Ev) : sDctSet i f1 f2 env = (f2 env).bind fun z => (dctOf (sget env i)).bind fun kvs => (f1 env).bind fun d => (asStr d).bind fun k => if kvs.length ≤ BIG then .ok (.nx (env.set i (.big (.dct (putD kvs k z))))) else .bad := nrfl rfl
theorem ev_sDctOf (i : Nat) (f1 : Ev → R PyData) (env : Ev) : sDctOf i f1 env = (f1 env).bind fun d => (match d with | .list ds => (opt (pairsOf ds)).bind fun kvs => .ok (.nx (env.set i (.big (.dct (mergeD [] kvs))))) | _ => .bad) := nrfl rfl
theorem ev_iEnumD (f1 : Ev → R PyData) (env : Ev) : iEnumD f1 env = (f1 env).bind fun x => (itemsS x).bind fun xs => .ok (enumL 0 xs) := nrfl rfl
theorem ev_iZipD (f1 f2 : Ev → R PyData) (env : Ev) : iZipD f1 f2 env = (f1 env).bind fun x => (f2 env).bind fun y => match x, y with | .list xs, .list ys => .ok (zipL xs ys) | .tuple xs, .tuple ys => .ok (zipL xs ys) | _, _ => .bad := nrfl rfl
theorem ev_tTrue  (env : Ev) : tTrue env = .ok true := nrfl rfl
theorem ev_dLcx (it : Ev → R (List PyData)) (g : PyData → Ev → R Ev) (t : Ev → R Bool) (f1 : Ev → R PyData) (vs : List Nat) (env : Ev) : dLcx it g t f1 vs env = (it env).bind fun xs => if xs.length ≤ BIG then noexc ((lcR g t f1 (wipeE env vs) xs).bind fun r => .ok (.list r)) else .bad := nrfl rfl
theorem ev_sNil  (env : Ev) : sNil env = .ok (.nx env) := nrfl rfl
theorem ev_sSeq (g h : Ev → R Out) (env : Ev) : sSeq g h env = (g env).bind fun o => seqO o h := nrfl rfl
theorem ev_sFreeze (i : Nat) (g : Ev → R Out) (env : Ev) : sFreeze i g env = (freezeE i env).bind g := nrfl rfl
theorem ev_sAsg (f1 : Ev → R PyData) (g : PyData → Ev → R Ev) (env : Ev) : sAsg f1 g env = (f1 env).bind fun d => (g d env).bind fun e => .ok (.nx e) := nrfl rfl
theorem ev_sPar (i j : Nat) (l : Ev → R (List PyData)) (env : Ev) : sPar i j l env = (l env).bind fun ds => match ds with | [d, e] => .ok (.nx ((env.set i (.val d)).set j (.val e))) | _ => .bad := nrfl rfl
theorem ev_sOwnL (i : Nat) (l : Ev → R (List PyData)) (env : Ev) : sOwnL i l env = (l env).bind fun ds => if ds.length ≤ BIG then .ok (.nx (env.set i (.own ds))) else .bad := nrfl rfl
theorem ev_sAppend (i : Nat) (f1 : Ev → R PyData) (env : Ev) : sAppend i f1 env = match sget env i with | .own xs => (f1 env).bind fun d => if xs.length ≤ BIG then .ok (.nx (env.set i (.own (xs ++ [d])))) else .bad | _ => .bad := nrfl rfl
theorem ev_sExtend (i : Nat) (f1 : Ev → R PyData) (env : Ev) : sExtend i f1 env = match sget env i with | .own xs => ((f1 env).bind fun d => (match d with | .list ys => if xs.length + ys.length ≤ BIG then .ok (.nx (env.set i (.own (xs ++ ys)))) else .bad | _ => .bad)) | _ => .bad := nrfl rfl
theorem ev_sRet (f1 : Ev → R PyData) (env : Ev) : sRet f1 env = (f1 env).bind fun d => .ok (.rt d) := nrfl rfl
theorem ev_sRetOwn (i : Nat) (env : Ev) : sRetOwn i env = match sget env i with | .own xs => .ok (.rt (.list xs)) | _ => .bad := nrfl rfl
theorem ev_sRetN  (env : Ev) : sRetN env = .ok (.rt .none) := nrfl rfl
theorem ev_sIf (t : Ev → R Bool) (g h : Ev → R Out) (env : Ev) : sIf t g h env = (t env).bind fun b => if b = true then g env else h env := nrfl rfl
theorem ev_sDrop (f1 : Ev → R PyData) (env : Ev) : sDrop f1 env = (f1 env).bind fun _ => .ok (.nx env) := nrfl rfl
theorem ev_sWhile (n : Nat) (t : Ev → R Bool) (g : Ev → R Out) (env : Ev) : sWhile n t g env = whileR t g n env := nrfl rfl
theorem ev_sFor (it : Ev → R (List PyData)) (gg : PyData → Ev → R Ev) (g : Ev → R Out) (env : Ev) : sFor it gg g env = (it env).bind fun xs => forR gg g xs env := nrfl rfl
theorem ev_sRaise (c : Str) (env : Ev) : sRaise c env = .exc c := nrfl rfl
theorem ev_dLm1 (g : List PyData → PyData → R PyData) (f1 f2 : Ev → R PyData) (env : Ev) : dLm1 g f1 f2 env = (f1 env).bind fun x => (dLm1.asList x).bind fun a => (f2 env).bind fun y => g a y := nrfl rfl
theorem ev_dIsE (i : Nat) (x : Str) (env : Ev) : dIsE i x env = (excOf i env).bind fun c => if x ∈ EXS then .ok (.bool (c == x)) else .bad := nrfl rfl
theorem ev_dIsVE (i : Nat) (env : Ev) : dIsVE i env = (excOf i env).bind fun c => .ok (.bool true) := nrfl rfl
theorem ev_dNoneX (i : Nat) (env : Ev) : dNoneX i env = match sget env i with | .val d => (isD d .none).bind asBool | .exc _ => .ok false | _ => .bad := nrfl rfl
theorem ev_aExc (i : Nat) (l : Ev → R (List Sl)) (env : Ev) : aExc i l env = (excOf i env).bind fun c => (l env).bind fun ds => .ok (.exc c :: ds) := nrfl rfl
theorem ev_sMovE (i j : Nat) (env : Ev) : sMovE i j env = (excOf j env).bind fun c => .ok (.nx (env.set i (.exc c))) := nrfl rfl
theorem ev_aBor (i : Nat) (l : Ev → R (List Sl)) (env : Ev) : aBor i l env = match anyB (sget env i) with | some b => (l env).bind fun ds => .ok (.bor b :: ds) | none => .bad := nrfl rfl
theorem ev_sRetB (f1 : Ev → R PyData) (env : Ev) : sRetB f1 env = (f1 env).bind fun d => match sget env 0 with | .slf b => .ok (.rb b d) | _ => .bad := nrfl rfl
theorem ev_sRetCallB (j n : Nat) (m : Big → List Sl → R ResB) (l : Ev → R (List Sl)) (env : Ev) : sRetCallB j n m l env = (bigOf (sget env j)).bind fun b => (l env).bind fun ss => if ss.length + 1 = n ∧ ss.all plain = true then (noexc (m b ss)).bind fun r => match r.1 with | .ok d => .ok (.rt d) | .error c => .bad else .bad := nrfl rfl
theorem ev_sMake2 (i j : Nat) (c : Str) (n : Nat) (mf : Big → List Sl → R ResB) (l1 l2 : Ev → R (List Sl)) (env : Ev) : sMake2 i j c n mf l1 l2 env = (l1 env).bind fun s1 => (made c n mf s1).bind fun b1 => (l2 env).bind fun s2 => (made c n mf s2).bind fun b2 => if i < env.length ∧ j < env.length ∧ i ≠ j then .ok (.nx ((env.set i (.big b1)).set j (.big b2))) else .bad := nrfl rfl
theorem ev_sTry (i : Nat) (g h : Ev → R Out) (env : Ev) : sTry i g h env = match g env with | .ok o => tryO i env.length h o | .exc c => (if c ∈ EXS then (noexc (h ((List.replicate env.length Sl.emp).set i (.exc c)))).bind (clrO i) else .bad) | .bad => .bad := nrfl rfl
theorem ev_gN_ (i : Nat) (d : PyData) (env : Ev) : gN i d env = .ok (env.set i (.val d)) := nrfl rfl
theorem ev_gTt (n : Nat) (g : List PyData → Ev → R Ev) (ds : List PyData) (env : Ev) : gT n g (.tuple ds) env = if ds.length = n then g ds env else .bad := nrfl rfl
theorem ev_gsC_ (g : PyData → Ev → R Ev) (h : List PyData → Ev → R Ev) (d : PyData) (r : List PyData) (env : Ev) : gsC g h (d :: r) env = (g d env).bind fun e => h r e := nrfl rfl
theorem ev_gsN_ (env : Ev) : gsN [] env = .ok env := nrfl rfl
theorem ev_seq_nx (e : Ev) (h : Ev → R Out) : seqO (.nx e) h = h e := nrfl rfl
theorem ev_seq_rt (d : PyData) (h : Ev → R Out) : seqO (.rt d) h = .ok (.rt d) := nrfl rfl
theorem ev_seq_bk (e : Ev) (h : Ev → R Out) : seqO (.bk e) h = .ok (.bk e) := nrfl rfl
theorem ev_seq_ct (e : Ev) (h : Ev → R Out) : seqO (.ct e) h = .ok (.ct e) := nrfl rfl
theorem ev_lo_nx (e : Ev) (h : Ev → R Out) : loopO (.nx e) h = h e := nrfl rfl
theorem ev_lo_rt (d : PyData) (h : Ev → R Out) : loopO (.rt d) h = .ok (.rt d) := nrfl rfl
theorem ev_lo_bk (e : Ev) (h : Ev → R Out) : loopO (.bk e) h = .ok (.nx e) := nrfl rfl
theorem ev_lo_ct (e : Ev) (h : Ev → R Out) : loopO (.ct e) h = h e := nrfl rfl
theorem ev_out_nx (e : Ev) : outD (.nx e) = .ok .none := nrfl rfl
theorem ev_out_rt (d : PyData) : outD (.rt d) = .ok d := nrfl rfl
theorem ev_den_ (n : Nat) (g : Ev → R Out) (ss : List Sl) : den n g ss = (g (ss ++ List.replicate (n - ss.length) .emp)).bind outD := nrfl rfl
theorem ev_guard_ (n : Nat) (ss : List Sl) : guardLen n ss = if ss.length = n then .ok ss else .bad := nrfl rfl
theorem ev_asBool_ (b : Bool) : asBool (.bool b) = .ok b := nrfl rfl
theorem ev_asInt_ (i : Int) : asInt (.int i) = .ok i := nrfl rfl
theorem ev_asStr_ (s : Str) : asStr (.str s) = .ok s := nrfl rfl
theorem ev_tr_none  : truthD .none = .ok false := nrfl rfl
theorem ev_tr_bool (b : Bool) : truthD (.bool b) = .ok b := nrfl rfl
theorem ev_tr_int (i : Int) : truthD (.int i) = .ok (i != 0) := nrfl rfl
theorem ev_tr_str (x : Str) : truthD (.str x) = if x.length ≤ BIG then .ok ((x.length : Int) != 0) else .bad := nrfl rfl
theorem ev_tr_list (xs : List PyData) : truthD (.list xs) = .ok (!xs.isEmpty) := nrfl rfl
theorem ev_tr_tuple (xs : List PyData) : truthD (.tuple xs) = .ok (!xs.isEmpty) := nrfl rfl
theorem ev_add_ii (i j : Int) : addD (.int i) (.int j) = .ok (.int (i + j)) := nrfl rfl
theorem ev_add_ss (x y : Str) : addD (.str x) (.str y) = if x.length + y.length ≤ BIG then .ok (.str (x ++ y)) else .bad := nrfl rfl
theorem ev_add_tt (xs ys : List PyData) : addD (.tuple xs) (.tuple ys) = if xs.length + ys.length ≤ BIG then .ok (.tuple (xs ++ ys)) else .bad := nrfl rfl
theorem ev_add_ll (xs ys : List PyData) : addD (.list xs) (.list ys) = if xs.length + ys.length ≤ BIG then .ok (.list (xs ++ ys)) else .bad := nrfl rfl
theorem ev_sub_ii (i j : Int) : subD (.int i) (.int j) = .ok (.int (i - j)) := nrfl rfl
theorem ev_mul_ii (i j : Int) : mulD (.int i) (.int j) = if i.natAbs < LIM ∨ j.natAbs < LIM then .ok (.int (i * j)) else .bad := nrfl rfl
theorem ev_mul_si (x : Str) (k : Int) : mulD (.str x) (.int k) = if x.length ≤ 1000 ∧ 0 ≤ k ∧ k ≤ 1000 then .ok (.str (Txt.mul x k)) else .bad := nrfl rfl
theorem ev_mul_li (xs : List PyData) (k : Int) : mulD (.list xs) (.int k) = if 0 ≤ k ∧ k ≤ 1000 ∧ xs.length ≤ 1000 then .ok (.list (List.replicate k.toNat xs).flatten) else .bad := nrfl rfl
theorem ev_mul_ti (xs : List PyData) (k : Int) : mulD (.tuple xs) (.int k) = if 2 ≤ k ∧ k ≤ 1000 ∧ xs.length ≤ 1000 ∧ xs ≠ [] then .ok (.tuple (List.replicate k.toNat xs).flatten) else .bad := nrfl rfl
theorem ev_mod_ii (i j : Int) : modD (.int i) (.int j) = if 0 < j then .ok (.int (i % j)) else .bad := nrfl rfl
theorem ev_div_ii (i j : Int) : divD (.int i) (.int j) = if 0 < j ∧ j < 1073741824 then .ok (.int (i / j)) else .bad := nrfl rfl
theorem ev_neg_i (i : Int) : negD (.int i) = .ok (.int (-i)) := nrfl rfl
theorem ev_eq_ss (x y : Str) : eqD (.str x) (.str y) = .ok (.bool (x == y)) := nrfl rfl
theorem ev_eq_ii (i j : Int) : eqD (.int i) (.int j) = .ok (.bool (i == j)) := by show (if shp 60 (.int i) = true ∧ shp 60 (.int j) = true then R.ok (PyData.bool _) else .bad) = _; rw [if_pos ⟨rfl, rfl⟩]; simp only [PyData.eqv]
theorem ev_ne_ss (x y : Str) : neD (.str x) (.str y) = .ok (.bool (!(x == y))) := nrfl rfl
theorem ev_ne_ii (i j : Int) : neD (.int i) (.int j) = .ok (.bool (!(i == j))) := by show (if shp 60 (.int i) = true ∧ shp 60 (.int j) = true then R.ok (PyData.bool _) else .bad) = _; rw [if_pos ⟨rfl, rfl⟩]; simp only [PyData.eqv]
theorem ev_lt_ii (i j : Int) : ltD (.int i) (.int j) = .ok (.bool (decide (i < j))) := nrfl rfl
theorem ev_lt_ss (x y : Str) : ltD (.str x) (.str y) = .ok (.bool (decide (x.cps.toList < y.cps.toList))) := nrfl rfl
theorem ev_le_ii (i j : Int) : leD (.int i) (.int j) = .ok (.bool (decide (i ≤ j))) := nrfl rfl
theorem ev_le_ss (x y : Str) : leD (.str x) (.str y) = .ok (.bool (!decide (y.cps.toList < x.cps.toList))) := nrfl rfl
theorem ev_ge_ii (i j : Int) : geD (.int i) (.int j) = .ok (.bool (decide (j ≤ i))) := nrfl rfl
theorem ev_gt_ii (i j : Int) : gtA (.int i) (.int j) = .ok (.bool (decide (j < i))) := nrfl rfl
theorem ev_is_bb (i j : Bool) : isD (.bool i) (.bool j) = .ok (.bool (decide (i = j))) := nrfl rfl
theorem ev_isn_ (d e : PyData) : isnD d e = (isD d e).bind fun z => (asBool z).bind fun k => .ok (.bool (!k)) := nrfl rfl
theorem ev_in_ss (x y : Str) : inD (.str x) (.str y) = .ok (.bool (subIs x y)) := nrfl rfl
theorem ev_notIn_ (d e : PyData) : notInD d e = (inD d e).bind fun z => (asBool z).bind fun k => .ok (.bool (!k)) := nrfl rfl
theorem ev_ix_l (xs : List PyData) (i : Int) : ixD (.list xs) (.int i) = opt (atI xs i) := nrfl rfl
theorem ev_ix_t (xs : List PyData) (i : Int) : ixD (.tuple xs) (.int i) = opt (atI xs i) := nrfl rfl
theorem ev_ix_s (z : Str) (i : Int) : ixD (.str z) (.int i) = if z.length ≤ BIG then (opt (atI z.cps.toList i)).bind fun c => .ok (.str ⟨#[c]⟩) else .bad := nrfl rfl
theorem ev_sl_l (xs : List PyData) (lo hi : Option Int) : sliceD (.list xs) lo hi = .ok (.list (cutD xs lo hi)) := nrfl rfl
theorem ev_sl_t (xs : List PyData) (lo hi : Option Int) : sliceD (.tuple xs) lo hi = .ok (.tuple (cutD xs lo hi)) := nrfl rfl
theorem ev_sl_s (z : Str) (lo hi : Option Int) : sliceD (.str z) lo hi = if z.length ≤ BIG then .ok (.str (cutS z lo hi)) else .bad := nrfl rfl
theorem ev_slS_l (xs : List PyData) (lo hi st : Option Int) : sliceSD (.list xs) lo hi st = if st = some 0 then .bad else .ok (.list (stepL xs lo hi st)) := nrfl rfl
theorem ev_mkTup_ (ds : List PyData) : mkTup ds = if ds.length ≤ BIG then .ok (.tuple ds) else .bad := nrfl rfl
theorem ev_mkLst_ (ds : List PyData) : mkLst ds = if ds.length ≤ BIG then .ok (.list ds) else .bad := nrfl rfl
theorem ev_len_s (z : Str) : lenD (.str z) = if z.length ≤ BIG then .ok (.int z.length) else .bad := nrfl rfl
theorem ev_len_l (xs : List PyData) : lenD (.list xs) = .ok (.int xs.length) := nrfl rfl
theorem ev_len_t (xs : List PyData) : lenD (.tuple xs) = .ok (.int xs.length) := nrfl rfl
theorem ev_int_i (i : Int) : L3.intD (.int i) = .ok (.int i) := nrfl rfl
theorem ev_int_b (k : Bool) : L3.intD (.bool k) = .ok (.int (if k then 1 else 0)) := nrfl rfl
theorem ev_tup_l (xs : List PyData) : tupleD (.list xs) = .ok (.tuple xs) := nrfl rfl
theorem ev_tup_t (xs : List PyData) : tupleD (.tuple xs) = .ok (.tuple xs) := nrfl rfl
theorem ev_lst_l (xs : List PyData) : listD (.list xs) = .ok (.list xs) := nrfl rfl
theorem ev_lst_t (xs : List PyData) : listD (.tuple xs) = .ok (.list xs) := nrfl rfl
theorem ev_sum_l (xs : List PyData) : sumD (.list xs) = (opt (intsOf xs)).bind fun ns => .ok (.int ns.sum) := nrfl rfl
theorem ev_all_l (xs : List PyData) : allD (.list xs) = (opt (boolsOf xs)).bind fun ns => .ok (.bool (ns.all id)) := nrfl rfl
theorem ev_max1_l (xs : List PyData) : maxD1 (.list xs) = (opt (intsOf xs)).bind fun ns => if ns.isEmpty then .bad else .ok (.int (maxL ns)) := nrfl rfl
theorem ev_max2_ (i j : Int) : max2D (.int i) (.int j) = .ok (.int (if j > i then j else i)) := nrfl rfl
theorem ev_min2_ (i j : Int) : min2D (.int i) (.int j) = .ok (.int (if j < i then j else i)) := nrfl rfl
theorem ev_asList_ (xs : List PyData) : dLm1.asList (.list xs) = .ok xs := nrfl rfl
theorem ev_clr_nx (i : Nat) (e : Ev) : clrO i (.nx e) = .ok (.nx (e.set i .emp)) := nrfl rfl
theorem ev_clr_rt (i : Nat) (d : PyData) : clrO i (.rt d) = .ok (.rt d) := nrfl rfl
theorem ev_tr_nx (i n : Nat) (h : Ev → R Out) (e : Ev) : tryO i n h (.nx e) = .ok (.nx e) := nrfl rfl
theorem ev_tr_rt (i n : Nat) (h : Ev → R Out) (d : PyData) : tryO i n h (.rt d) = .ok (.rt d) := nrfl rfl
theorem ev_seq_rb (b : Big) (d : PyData) (h : Ev → R Out) : seqO (.rb b d) h = .ok (.rb b d) := nrfl rfl
theorem ev_seq_ex (b : Big) (c : Str) (h : Ev → R Out) : seqO (.ex b c) h = .ok (.ex b c) := nrfl rfl
theorem ev_lo_rb (b : Big) (d : PyData) (h : Ev → R Out) : loopO (.rb b d) h = .ok (.rb b d) := nrfl rfl
theorem ev_lo_ex (b : Big) (c : Str) (h : Ev → R Out) : loopO (.ex b c) h = .ok (.ex b c) := nrfl rfl
theorem ev_outB_nx (e : Ev) : outB (.nx e) = nxB (sget e 0) := nrfl rfl
theorem ev_outB_rb (b : Big) (d : PyData) : outB (.rb b d) = .ok (.ok d, b) := nrfl rfl
theorem ev_outB_ex (b : Big) (c : Str) : outB (.ex b c) = .ok (.error c, b) := nrfl rfl
theorem ev_nxB_ (b : Big) : nxB (.slf b) = .ok (.ok .none, b) := nrfl rfl
theorem ev_pgsOf_b (x : List (List PyData)) : pgsOf (.big (.pgs x)) = .ok x := nrfl rfl
theorem ev_bigOf_b (b : Big) : bigOf (.big b) = .ok b := nrfl rfl
theorem ev_bigOf_s (b : Big) : bigOf (.slf b) = .ok b := nrfl rfl
theorem ev_putB_ (j : Nat) (b : Big) (env : Ev) : putB j b env = match sget env j with | .slf _ => env.set j (.slf b) | _ => env.set j (.big b) := nrfl rfl
theorem ev_lastD_ (x : List (List PyData)) : lastD x = opt x.getLast? := nrfl rfl
theorem ev_insOf_b (c : Str) (fs : List (Str × Fld)) : insOf c (.big (.ins c fs)) = .ok fs := nrfl (if_pos rfl)
theorem ev_insOf_s (c : Str) (fs : List (Str × Fld)) : insOf c (.slf (.ins c fs)) = .ok fs := nrfl (if_pos rfl)
theorem ev_insOf_r (c : Str) (fs : List (Str × Fld)) : insOf c (.bor (.ins c fs)) = .ok fs := nrfl (if_pos rfl)
theorem ev_bigI_b (c : Str) (fs : List (Str × Fld)) : bigI c (.big (.ins c fs)) = .ok fs := nrfl (if_pos rfl)
theorem ev_bigI_s (c : Str) (fs : List (Str × Fld)) : bigI c (.slf (.ins c fs)) = .ok fs := nrfl (if_pos rfl)
theorem ev_dctOf_b (kvs : List (Str × PyData)) : dctOf (.big (.dct kvs)) = .ok kvs := nrfl rfl
theorem ev_frP_ (i : Nat) (env : Ev) : freezeP i env = match sget env i with | .big (.pgs xss) => .ok (env.set i (.val (.list (xss.map .list)))) | .val d => .ok env | _ => .bad := nrfl rfl
theorem ev_countD_ (xs : List PyData) (b : Bool) : countD xs (.bool b) = (opt (boolsOf xs)).bind fun bs => .ok (.int (bs.countP (· == b) : Nat)) := nrfl rfl
theorem ev_indexD_ (xs : List PyData) (b : Bool) : indexD xs (.bool b) = (opt (boolsOf xs)).bind fun bs => (opt (bs.findIdx? (· == b))).bind fun k => .ok (.int (k : Nat)) := nrfl rfl
theorem ev_isTD_ (T : String) (d : PyData) : isTD T d = .ok (.bool (isT T d)) := nrfl rfl
theorem ev_isTD2_ (T U : String) (d : PyData) : isTD2 T U d = .ok (.bool (isT T d || isT U d)) := nrfl rfl
theorem ev_items_l (xs : List PyData) : itemsD (.list xs) = .ok xs := nrfl rfl
theorem ev_items_t (xs : List PyData) : itemsD (.tuple xs) = .ok xs := nrfl rfl
theorem ev_items_s (z : Str) : itemsD (.str z) = .ok (signsD z) := nrfl rfl
theorem ev_itS_l (xs : List PyData) : itemsS (.list xs) = .ok xs := nrfl rfl
theorem ev_itS_t (xs : List PyData) : itemsS (.tuple xs) = .ok xs := nrfl rfl
theorem ev_strip_ (a b : Str) : stripD a (.str b) = if a.length ≤ BIG then .ok (.str (Txt.stripChars a b)) else .bad := nrfl rfl
theorem ev_join_ (a : Str) (xs : List PyData) : joinD a (.list xs) = (opt (strsOf xs)).bind fun ys => if (ys.map (·.length)).sum + ys.length * a.length ≤ BIG then .ok (.str (Txt.join a ys)) else .bad := nrfl rfl
theorem ev_split_ (a b : Str) : splitD a (.str b) = if b.length ≠ 0 ∧ a.length ≤ BIG then .ok (.list ((Txt.split a b).map PyData.str)) else .bad := nrfl rfl
theorem ev_starts_ (a b : Str) : startsD a (.str b) = .ok (.bool (Txt.startswith a b)) := nrfl rfl
theorem ev_ends_ (a b : Str) : endsD a (.str b) = .ok (.bool (Txt.endswith a b)) := nrfl rfl
theorem ev_opt_some {α : Type} (a : α) : opt (some a) = .ok a := nrfl rfl
theorem ev_opt_none {α : Type} : opt (none : Option α) = .bad := nrfl rfl
theorem ev_noexc_ok {α : Type} (a : α) : noexc (.ok a) = .ok a := nrfl rfl
theorem ev_lc_nil (g : PyData → Ev → R Ev) (t : Ev → R Bool) (f : Ev → R PyData) (env : Ev) : lcR g t f env [] = .ok [] := nrfl rfl
theorem ev_lc_cons (g : PyData → Ev → R Ev) (t : Ev → R Bool) (f : Ev → R PyData) (env : Ev) (x : PyData) (xs : List PyData) : lcR g t f env (x :: xs) = (g x env).bind fun e => (t e).bind fun b => if b = true then (f e).bind fun d => (lcR g t f env xs).bind fun r => .ok (d :: r) else lcR g t f env xs := nrfl rfl
theorem ev_for_nil (gg : PyData → Ev → R Ev) (g : Ev → R Out) (env : Ev) : forR gg g [] env = .ok (.nx env) := nrfl rfl
theorem ev_for_cons (gg : PyData → Ev → R Ev) (g : Ev → R Out) (x : PyData) (xs : List PyData) (env : Ev) : forR gg g (x :: xs) env = (gg x env).bind fun e => (g e).bind fun o => loopO o (forR gg g xs) := nrfl rfl
theorem ev_wh_succ (t : Ev → R Bool) (g : Ev → R Out) (n : Nat) (env : Ev) : whileR t g (n + 1) env = (t env).bind fun c => if c = true then (g env).bind fun o => loopO o (whileR t g n) else .ok (.nx env) := nrfl rfl
theorem ev_wipe_nil (env : Ev) : wipeE env [] = env := nrfl rfl
theorem ev_wipe_cons (env : Ev) (v : Nat) (vs : List Nat) : wipeE env (v :: vs) = (wipeE env vs).set v .emp := nrfl rfl
theorem ev_fr_ (i : Nat) (env : Ev) : freezeE i env = match sget env i with | .own xs => .ok (env.set i (.val (.list xs))) | .val d => .ok env | _ => .bad := nrfl rfl
theorem ev_scr_ (i : Nat) (env : Ev) : scrAt i env = match sget env i with | .scr ns => .ok (.scr ns) | _ => .bad := nrfl rfl
theorem ev_isT_tuple_n  : isT "tuple" (.none) = false := nrfl rfl
theorem ev_isT_tuple_b (b : Bool) : isT "tuple" (.bool b) = false := nrfl rfl
theorem ev_isT_tuple_i (i : Int) : isT "tuple" (.int i) = false := nrfl rfl
theorem ev_isT_tuple_s (x : Str) : isT "tuple" (.str x) = false := nrfl rfl
theorem ev_isT_tuple_t (xs : List PyData) : isT "tuple" (.tuple xs) = true := nrfl rfl
theorem ev_isT_tuple_l (xs : List PyData) : isT "tuple" (.list xs) = false := nrfl rfl
theorem ev_isT_bool_n  : isT "bool" (.none) = false := nrfl rfl
theorem ev_isT_bool_b (b : Bool) : isT "bool" (.bool b) = true := nrfl rfl
theorem ev_isT_bool_i (i : Int) : isT "bool" (.int i) = false := nrfl rfl
theorem ev_isT_bool_s (x : Str) : isT "bool" (.str x) = false := nrfl rfl
theorem ev_isT_bool_t (xs : List PyData) : isT "bool" (.tuple xs) = false := nrfl rfl
theorem ev_isT_bool_l (xs : List PyData) : isT "bool" (.list xs) = false := nrfl rfl
theorem ev_isT_int_n  : isT "int" (.none) = false := nrfl rfl
theorem ev_isT_int_b (b : Bool) : isT "int" (.bool b) = true := nrfl rfl
theorem ev_isT_int_i (i : Int) : isT "int" (.int i) = true := nrfl rfl
theorem ev_isT_int_s (x : Str) : isT "int" (.str x) = false := nrfl rfl
theorem ev_isT_int_t (xs : List PyData) : isT "int" (.tuple xs) = false := nrfl rfl
theorem ev_isT_int_l (xs : List PyData) : isT "int" (.list xs) = false := nrfl rfl
theorem ev_isT_str_n  : isT "str" (.none) = false := nrfl rfl
theorem ev_isT_str_b (b : Bool) : isT "str" (.bool b) = false := nrfl rfl
theorem ev_isT_str_i (i : Int) : isT "str" (.int i) = false := nrfl rfl
theorem ev_isT_str_s (x : Str) : isT "str" (.str x) = true := nrfl rfl
theorem ev_isT_str_t (xs : List PyData) : isT "str" (.tuple xs) = false := nrfl rfl
theorem ev_isT_str_l (xs : List PyData) : isT "str" (.list xs) = false := nrfl rfl
theorem ev_isT_list_n  : isT "list" (.none) = false := nrfl rfl
theorem ev_isT_list_b (b : Bool) : isT "list" (.bool b) = false := nrfl rfl
theorem ev_isT_list_i (i : Int) : isT "list" (.int i) = false := nrfl rfl
theorem ev_isT_list_s (x : Str) : isT "list" (.str x) = false := nrfl rfl
theorem ev_isT_list_t (xs : List PyData) : isT "list" (.tuple xs) = false := nrfl rfl
theorem ev_isT_list_l (xs : List PyData) : isT "list" (.list xs) = true := nrfl rfl
theorem ev_is_nn  : isD .none .none = .ok (.bool true) := nrfl rfl
theorem ev_is_bn (b : Bool) : isD (.bool b) .none = .ok (.bool false) := nrfl rfl
theorem ev_is_in (i : Int) : isD (.int i) .none = .ok (.bool false) := nrfl rfl
theorem ev_is_sn (x : Str) : isD (.str x) .none = .ok (.bool false) := nrfl rfl
theorem ev_is_tn (xs : List PyData) : isD (.tuple xs) .none = .ok (.bool false) := nrfl rfl
theorem ev_is_ln (xs : List PyData) : isD (.list xs) .none = .ok (.bool false) := nrfl rfl
end LB

namespace LB
open PySem PySem.Spec PyProof.Rows L2 L3
local macro_rules | `(tactic| walk_at "ev") => `(tactic| simp only [ev_dVar, ev_dOwn, ev_dC, ev_d2, ev_d1, ev_dTest, ev_dChain, ev_dChain3, ev_dTr, ev_dNot, ev_dAnd, ev_dOr, ev_dAndV, ev_dOrV, ev_dNotV, ev_dIf, ev_oNone, ev_oSome, ev_dSlice, ev_dSlice3, ev_lNil, ev_lCons, ev_dTup, ev_dLst, ev_aNil, ev_aCons, ev_aScr, ev_dCall, ev_dScrLen, ev_dScrIx, ev_dSm1, ev_iItems1, ev_iRange1, ev_iRange2, ev_iRange3, ev_dPgLen, ev_sPgApp, ev_sPgPush, ev_sPgNil, ev_sPgNew, ev_sFreezeP, ev_sCallB, ev_dOrX, ev_dDctIx, ev_dDctGet, ev_dDctNin, ev_dDctKeys, ev_sDctNew, ev_sDctSet, ev_sDctOf, ev_iEnumD, ev_iZipD, ev_tTrue, ev_dLcx, ev_sNil, ev_sSeq, ev_sFreeze, ev_sAsg, ev_sPar, ev_sOwnL, ev_sAppend, ev_sExtend, ev_sRet, ev_sRetOwn, ev_sRetN, ev_sIf, ev_sDrop, ev_sWhile, ev_sFor, ev_sRaise, ev_dLm1, ev_dIsE, ev_dIsVE, ev_dNoneX, ev_aExc, ev_sMovE, ev_sTry, ev_gN_, ev_gTt, ev_gsC_, ev_gsN_, ev_seq_nx, ev_seq_rt, ev_seq_bk, ev_seq_ct, ev_lo_nx, ev_lo_rt, ev_lo_bk, ev_lo_ct, ev_out_nx, ev_out_rt, ev_den_, ev_guard_, ev_asBool_, ev_asInt_, ev_asStr_, ev_tr_none, ev_tr_bool, ev_tr_int, ev_tr_str, ev_tr_list, ev_tr_tuple, ev_add_ii, ev_add_ss, ev_add_tt, ev_add_ll, ev_sub_ii, ev_mul_ii, ev_mul_si, ev_mul_li, ev_mul_ti, ev_mod_ii, ev_div_ii, ev_neg_i, ev_eq_ss, ev_eq_ii, ev_ne_ss, ev_ne_ii, ev_lt_ii, ev_lt_ss, ev_le_ii, ev_le_ss, ev_ge_ii, ev_gt_ii, ev_is_bb, ev_isn_, ev_in_ss, ev_notIn_, ev_ix_l, ev_ix_t, ev_ix_s, ev_sl_l, ev_sl_t, ev_sl_s, ev_slS_l, ev_mkTup_, ev_mkLst_, ev_len_s, ev_len_l, ev_len_t, ev_int_i, ev_int_b, ev_tup_l, ev_tup_t, ev_lst_l, ev_lst_t, ev_sum_l, ev_all_l, ev_max1_l, ev_max2_, ev_min2_, ev_asList_, ev_clr_nx, ev_clr_rt, ev_tr_nx, ev_tr_rt, ev_seq_rb, ev_seq_ex, ev_lo_rb, ev_lo_ex, ev_outB_nx, ev_outB_rb, ev_outB_ex, ev_nxB_, ev_pgsOf_b, ev_bigOf_b, ev_bigOf_s, ev_putB_, ev_lastD_, ev_dctOf_b, ev_frP_, ev_countD_, ev_indexD_, ev_isTD_, ev_isTD2_, ev_items_l, ev_items_t, ev_items_s, ev_itS_l, ev_itS_t, ev_strip_, ev_join_, ev_split_, ev_starts_, ev_ends_, ev_opt_some, ev_opt_none, ev_noexc_ok, ev_lc_nil, ev_lc_cons, ev_for_nil, ev_wipe_nil, ev_wipe_cons, ev_fr_, ev_scr_, ev_isT_tuple_n, ev_isT_tuple_b, ev_isT_tuple_i, ev_isT_tuple_s, ev_isT_tuple_t, ev_isT_tuple_l, ev_isT_bool_n, ev_isT_bool_b, ev_isT_bool_i, ev_isT_bool_s, ev_isT_bool_t, ev_isT_bool_l, ev_isT_int_n, ev_isT_int_b, ev_isT_int_i, ev_isT_int_s, ev_isT_int_t, ev_isT_int_l, ev_isT_str_n, ev_isT_str_b, ev_isT_str_i, ev_isT_str_s, ev_isT_str_t, ev_isT_str_l, ev_isT_list_n, ev_isT_list_b, ev_isT_list_i, ev_isT_list_s, ev_isT_list_t, ev_isT_list_l, ev_is_nn, ev_is_bn, ev_is_in, ev_is_sn, ev_is_tn, ev_is_ln, BIG_eq, R.ok_bind, R.exc_bind, R.bad_bind, sget_cons_zero, sget_cons_succ, List.set_cons_zero, List.set_cons_succ, List.cons_append, List.nil_append, List.append_nil, List.length_cons, List.length_nil, List.replicate_succ, List.replicate_zero, ite_true, ite_false, Bool.not_true, Bool.not_false, Bool.false_eq_true, decide_eq_true_eq, Nat.zero_add, ↓reduceIte, Nat.reduceAdd, Int.reduceLT, Int.reduceLE, Int.reduceAdd, Int.reduceSub, Int.reduceMul, Int.reduceNeg, LIM_eq, Int.reduceAbs, Nat.reduceLT, true_or, or_true, true_and, and_true, Int.natAbs_natCast, Int.toNat_natCast, Nat.mul_zero, Nat.add_zero, Int.reduceToNat, List.flatten_nil, List.flatten_cons, List.length_append, List.length_map, Int.zero_add, ne_eq, not_false_eq_true, not_true_eq_false,  Nat.reduceSub, Nat.reduceLeDiff, Nat.reduceEqDiff, decide_true, decide_false, Bool.and_true, Bool.true_and, Bool.and_false, Bool.false_and, Bool.or_true, Bool.true_or, Bool.or_false, Bool.false_or])
local macro_rules | `(tactic| simp_arith [$xs,*]) => `(tactic| simp only [ev_dVar, ev_dOwn, ev_dC, ev_d2, ev_d1, ev_dTest, ev_dChain, ev_dChain3, ev_dTr, ev_dNot, ev_dAnd, ev_dOr, ev_dAndV, ev_dOrV, ev_dNotV, ev_dIf, ev_oNone, ev_oSome, ev_dSlice, ev_dSlice3, ev_lNil, ev_lCons, ev_dTup, ev_dLst, ev_aNil, ev_aCons, ev_aScr, ev_dCall, ev_dScrLen, ev_dScrIx, ev_dSm1, ev_iItems1, ev_iRange1, ev_iRange2, ev_iRange3, ev_dPgLen, ev_sPgApp, ev_sPgPush, ev_sPgNil, ev_sPgNew, ev_sFreezeP, ev_sCallB, ev_dOrX, ev_dDctIx, ev_dDctGet, ev_dDctNin, ev_dDctKeys, ev_sDctNew, ev_sDctSet, ev_sDctOf, ev_iEnumD, ev_iZipD, ev_tTrue, ev_dLcx, ev_sNil, ev_sSeq, ev_sFreeze, ev_sAsg, ev_sPar, ev_sOwnL, ev_sAppend, ev_sExtend, ev_sRet, ev_sRetOwn, ev_sRetN, ev_sIf, ev_sDrop, ev_sWhile, ev_sFor, ev_sRaise, ev_dLm1, ev_dIsE, ev_dIsVE, ev_dNoneX, ev_aExc, ev_sMovE, ev_sTry, ev_gN_, ev_gTt, ev_gsC_, ev_gsN_, ev_seq_nx, ev_seq_rt, ev_seq_bk, ev_seq_ct, ev_lo_nx, ev_lo_rt, ev_lo_bk, ev_lo_ct, ev_out_nx, ev_out_rt, ev_den_, ev_guard_, ev_asBool_, ev_asInt_, ev_asStr_, ev_tr_none, ev_tr_bool, ev_tr_int, ev_tr_str, ev_tr_list, ev_tr_tuple, ev_add_ii, ev_add_ss, ev_add_tt, ev_add_ll, ev_sub_ii, ev_mul_ii, ev_mul_si, ev_mul_li, ev_mul_ti, ev_mod_ii, ev_div_ii, ev_neg_i, ev_eq_ss, ev_eq_ii, ev_ne_ss, ev_ne_ii, ev_lt_ii, ev_lt_ss, ev_le_ii, ev_le_ss, ev_ge_ii, ev_gt_ii, ev_is_bb, ev_isn_, ev_in_ss, ev_notIn_, ev_ix_l, ev_ix_t, ev_ix_s, ev_sl_l, ev_sl_t, ev_sl_s, ev_slS_l, ev_mkTup_, ev_mkLst_, ev_len_s, ev_len_l, ev_len_t, ev_int_i, ev_int_b, ev_tup_l, ev_tup_t, ev_lst_l, ev_lst_t, ev_sum_l, ev_all_l, ev_max1_l, ev_max2_, ev_min2_, ev_asList_, ev_clr_nx, ev_clr_rt, ev_tr_nx, ev_tr_rt, ev_seq_rb, ev_seq_ex, ev_lo_rb, ev_lo_ex, ev_outB_nx, ev_outB_rb, ev_outB_ex, ev_nxB_, ev_pgsOf_b, ev_bigOf_b, ev_bigOf_s, ev_putB_, ev_lastD_, ev_dctOf_b, ev_frP_, ev_countD_, ev_indexD_, ev_isTD_, ev_isTD2_, ev_items_l, ev_items_t, ev_items_s, ev_itS_l, ev_itS_t, ev_strip_, ev_join_, ev_split_, ev_starts_, ev_ends_, ev_opt_some, ev_opt_none, ev_noexc_ok, ev_lc_nil, ev_lc_cons, ev_for_nil, ev_wipe_nil, ev_wipe_cons, ev_fr_, ev_scr_, ev_isT_tuple_n, ev_isT_tuple_b, ev_isT_tuple_i, ev_isT_tuple_s, ev_isT_tuple_t, ev_isT_tuple_l, ev_isT_bool_n, ev_isT_bool_b, ev_isT_bool_i, ev_isT_bool_s, ev_isT_bool_t, ev_isT_bool_l, ev_isT_int_n, ev_isT_int_b, ev_isT_int_i, ev_isT_int_s, ev_isT_int_t, ev_isT_int_l, ev_isT_str_n, ev_isT_str_b, ev_isT_str_i, ev_isT_str_s, ev_isT_str_t, ev_isT_str_l, ev_isT_list_n, ev_isT_list_b, ev_isT_list_i, ev_isT_list_s, ev_isT_list_t, ev_isT_list_l, ev_is_nn, ev_is_bn, ev_is_in, ev_is_sn, ev_is_tn, ev_is_ln, BIG_eq, R.ok_bind, R.exc_bind, R.bad_bind, sget_cons_zero, sget_cons_succ, List.set_cons_zero, List.set_cons_succ, List.cons_append, List.nil_append, List.append_nil, List.length_cons, List.length_nil, List.replicate_succ, List.replicate_zero, ite_true, ite_false, Bool.not_true, Bool.not_false, Bool.false_eq_true, decide_eq_true_eq, Nat.zero_add, ↓reduceIte, Nat.reduceAdd, Int.reduceLT, Int.reduceLE, Int.reduceAdd, Int.reduceSub, Int.reduceMul, Int.reduceNeg, LIM_eq, Int.reduceAbs, Nat.reduceLT, true_or, or_true, true_and, and_true, Int.natAbs_natCast, Int.toNat_natCast, Nat.mul_zero, Nat.add_zero, Int.reduceToNat, List.flatten_nil, List.flatten_cons, List.length_append, List.length_map, Int.zero_add, ne_eq, not_false_eq_true, not_true_eq_false,  Nat.reduceSub, Nat.reduceLeDiff, Nat.reduceEqDiff, decide_true, decide_false, Bool.and_true, Bool.true_and, Bool.and_false, Bool.false_and, Bool.or_true, Bool.true_or, Bool.or_false, Bool.false_or, $xs,*])
/-! ### texts as lists of signs -/
def st (l : List Nat) : Str := ⟨l.toArray⟩
theorem st_len (l : List Nat) : (st l).length = l.length := by simp [st, Str.length]
theorem st_tl (l : List Nat) : (st l).cps.toList = l := rfl
theorem st_of (s : Str) : s = st (TL.tl s) := (TL.mk_tl s).symm
theorem st_app (a b : List Nat) : st a ++ st b = st (a ++ b) := TL.ext_tl (TL.tl_append _ _)
theorem st_inj {a b : List Nat} (h : st a = st b) : a = b := by
  have h2 : (st a).cps.toList = (st b).cps.toList := by rw [h]
  exact h2
theorem st_beq (a b : List Nat) : (st a == st b) = (a == b) := by
  by_cases h : a = b
  · subst h; simp
  · rw [beq_eq_false_iff_ne.mpr h]; exact beq_eq_false_iff_ne.mpr fun e => h (st_inj e)
theorem st_one (c : Nat) : (⟨#[c]⟩ : Str) = st [c] := rfl
theorem st_cut (l : List Nat) (lo hi : Option Int) : cutS (st l) lo hi = st (cutD l lo hi) := by
  unfold cutS L3.cutD
  rw [st_len]
  rfl
theorem st_mul (l : List Nat) (k : Int) (h : 0 ≤ k) : Txt.mul (st l) k = st (List.replicate k.toNat l).flatten := by
  have key : ∀ (n : Nat) (a : Array Nat), (List.foldl (fun x y => x ++ y) a (List.replicate n l.toArray)) = a ++ ((List.replicate n l).flatten).toArray := by
    intro n
    induction n with
    | zero => intro a; simp
    | succ n ih => intro a; rw [List.replicate_succ, List.foldl_cons, ih, List.replicate_succ, List.flatten_cons]; simp
  unfold Txt.mul
  split
  · have : k.toNat = 0 := by omega
    rw [this]; rfl
  · split
    · rename_i h1 h2
      rw [Bool.or_eq_true, beq_iff_eq, beq_iff_eq, st_len] at h2
      rcases h2 with h2 | h2
      · subst h2; simp
      · rw [List.length_eq_zero_iff.mp h2]; simp
    · rw [show (st l).cps = l.toArray from rfl, key]; simp [st]
def gap : Nat := 32
/-- without the blanks at both ends -/
def ltrim (l : List Nat) : List Nat := l.dropWhile (· == 32)
def trim (l : List Nat) : List Nat := (ltrim (ltrim l).reverse).reverse
theorem tw_drop {α : Type} (p : α → Bool) : ∀ l : List α, l.drop (l.takeWhile p).length = l.dropWhile p
  | [] => rfl
  | a :: r => by
    rw [List.takeWhile_cons, List.dropWhile_cons]
    split
    · exact tw_drop p r
    · rfl
theorem st_strip (l : List Nat) : Txt.stripChars (st l) (st [32]) = st (trim l) := by
  have hc : (st [32]).cps.contains = (fun c => c == 32) := by funext c; simp [st, Array.contains]
  unfold Txt.stripChars
  rw [stripBy_eq, hc]
  apply TL.ext_tl
  rw [TL.tl_strSub]
  simp only [stripLo, stripHi, if_true, st_len, st_tl]
  show List.take _ (List.drop _ l) = trim l
  rw [tw_drop (fun c => c == 32) l]
  show List.take (l.length - (List.takeWhile (fun c => c == 32) (ltrim l).reverse).length - (l.takeWhile (fun c => c == 32)).length) (ltrim l) = _
  have e1 : (ltrim l).length = l.length - (l.takeWhile (fun c => c == 32)).length := by
    rw [ltrim, ← tw_drop, List.length_drop]
  rw [show l.length - (List.takeWhile (fun c => c == 32) (ltrim l).reverse).length - (l.takeWhile (fun c => c == 32)).length = (ltrim l).length - (List.takeWhile (fun c => c == 32) (ltrim l).reverse).length by omega]
  unfold trim
  rw [show ltrim (ltrim l).reverse = (ltrim l).reverse.drop (List.takeWhile (fun c => c == 32) (ltrim l).reverse).length from (tw_drop _ _).symm, List.drop_reverse, List.reverse_reverse]
theorem ltrim_spec : ∀ r : List Nat, ∃ k, k ≤ r.length ∧ ltrim r = r.drop k ∧ (k < r.length → r[k]? ≠ some 32) ∧ ∀ j, j < k → r[j]? = some 32
  | [] => ⟨0, Nat.le_refl _, rfl, fun h => by simp at h, fun j h => by omega⟩
  | a :: r => by
    by_cases h : a = 32
    · subst h
      obtain ⟨k, h1, h2, h3, h4⟩ := ltrim_spec r
      refine ⟨k + 1, by simp; omega, ?_, fun h => by simpa using h3 (by simpa using h), fun j hj => ?_⟩
      · show List.dropWhile _ _ = _
        rw [List.dropWhile_cons, if_pos (by rfl), List.drop_succ_cons]; exact h2
      · cases j with
        | zero => rfl
        | succ j => simpa using h4 j (by omega)
    · refine ⟨0, Nat.zero_le _, ?_, fun _ => by simpa using h, fun j h => by omega⟩
      show List.dropWhile _ _ = _
      rw [List.dropWhile_cons, if_neg (by simpa using h)]; rfl
theorem ltrim_keep {l : List Nat} (h : l[0]? ≠ some 32) : ltrim l = l := by
  obtain ⟨k, h1, h2, h3, h4⟩ := ltrim_spec l
  cases k with
  | zero => simpa using h2
  | succ k => exact (h (h4 0 (by omega))).elim
theorem trim_spec {l : List Nat} (h : l[0]? ≠ some 32) : ∃ k, k ≤ l.length ∧ trim l = l.take k ∧ (0 < k → l[k - 1]? ≠ some 32) ∧ ∀ j, k ≤ j → j < l.length → l[j]? = some 32 := by
  obtain ⟨k, h1, h2, h3, h4⟩ := ltrim_spec l.reverse
  rw [List.length_reverse] at h1 h3
  refine ⟨l.length - k, by omega, ?_, fun hk => ?_, fun j hj hj2 => ?_⟩
  · unfold trim
    rw [ltrim_keep h, h2, List.drop_reverse, List.reverse_reverse]
  · have := h3 (by omega)
    rw [List.getElem?_reverse (by omega)] at this
    rw [show l.length - k - 1 = l.length - 1 - k by omega]; exact this
  · have := h4 (l.length - 1 - j) (by omega)
    rw [List.getElem?_reverse (by omega)] at this
    rw [show l.length - 1 - (l.length - 1 - j) = j by omega] at this
    exact this
theorem trim_eq_iff (l : List Nat) : trim l = l ↔ (l[0]? ≠ some 32 ∧ l[l.length - 1]? ≠ some 32) := by
  constructor
  · intro h
    have hl : (trim l).length = l.length := by rw [h]
    have h0 : l[0]? ≠ some 32 := by
      intro h0
      obtain ⟨k, h1, h2, h3, h4⟩ := ltrim_spec l
      have hk : k = 0 := by
        have : (ltrim (ltrim l).reverse).length ≤ (ltrim l).reverse.length := by
          obtain ⟨k', g1, g2, _⟩ := ltrim_spec (ltrim l).reverse
          rw [g2, List.length_drop]; omega
        rw [List.length_reverse, h2, List.length_drop] at this
        have : (trim l).length ≤ l.length - k := by unfold trim; rw [List.length_reverse, h2]; exact this
        omega
      subst hk
      have hne : 0 < l.length := by cases l; simp at h0; simp
      exact h3 hne h0
    obtain ⟨k, h1, h2, h3, h4⟩ := trim_spec h0
    rw [h2, List.length_take] at hl
    have hk : k = l.length := by omega
    refine ⟨h0, fun hx => ?_⟩
    have hne : 0 < l.length := by cases l; simp at hx; simp
    exact h3 (by omega) (by rw [hk]; exact hx)
  · intro ⟨h0, hz⟩
    obtain ⟨k, h1, h2, h3, h4⟩ := trim_spec h0
    by_cases hk : k = l.length
    · rw [h2, hk, List.take_length]
    · exact (hz (h4 (l.length - 1) (by omega) (by omega))).elim
/-- a good text -/
structure GT (l : List Nat) : Prop where
  one : 1 ≤ l.length
  most : l.length ≤ 60
  sign : ∀ c ∈ l, 32 ≤ c ∧ c ≤ 126
  fst : l[0]? ≠ some 32
  lst : l[l.length - 1]? ≠ some 32
  dbl : ∀ i : Nat, l[i]? = some 32 → l[i + 1]? = some 32 → False
theorem GT.cut {l : List Nat} (h0 : l[0]? ≠ some 32) (h1 : 1 ≤ l.length) (hs : ∀ c ∈ l, 32 ≤ c ∧ c ≤ 126) (hd : ∀ i : Nat, l[i]? = some 32 → l[i + 1]? = some 32 → False) (m : Nat) (hm : 1 ≤ m) (hm2 : m ≤ 60) : GT (trim (l.take m)) := by
  have g0 : (l.take m)[0]? ≠ some 32 := by rw [List.getElem?_take_of_lt (by omega)]; exact h0
  obtain ⟨k, k1, k2, k3, k4⟩ := trim_spec g0
  rw [List.length_take] at k1 k4
  have kp : 0 < k := by
    rcases Nat.eq_zero_or_pos k with e | e
    · exact (g0 (k4 0 (by omega) (by omega))).elim
    · exact e
  rw [k2, List.take_take, Nat.min_eq_left (by omega)]
  have kl : (l.take k).length = k := by rw [List.length_take]; omega
  refine ⟨by omega, by omega, fun c hc => hs c (List.mem_of_mem_take hc), ?_, ?_, fun i a b => ?_⟩
  · rw [List.getElem?_take_of_lt (by omega)]; exact h0
  · rw [kl, List.getElem?_take_of_lt (by omega)]
    have := k3 kp
    rw [List.getElem?_take_of_lt (by omega)] at this
    exact this
  · rw [List.getElem?_take] at a b
    split at a <;> split at b
    · exact hd i a b
    all_goals simp_all
/-! ### loops -/
theorem forR_nx {gg : PyData → Ev → R Ev} {g : Ev → R Out} (I : Nat → Ev → Prop) : ∀ (xs : List PyData) (o : Nat) (e0 : Ev), I o e0 →
    (∀ (i : Nat) (h : i < xs.length) (e : Ev), I (o + i) e → ∃ e1 e2, gg xs[i] e = .ok e1 ∧ (g e1 = .ok (.nx e2) ∨ g e1 = .ok (.ct e2)) ∧ I (o + i + 1) e2) → ∃ e, forR gg g xs e0 = .ok (.nx e) ∧ I (o + xs.length) e
  | [], o, e0, h0, _ => ⟨e0, rfl, h0⟩
  | x :: xs, o, e0, h0, hs => by
    obtain ⟨e1, e2, h1, h2, h3⟩ := hs 0 (by simp) e0 h0
    obtain ⟨e, h4, h5⟩ := forR_nx I xs (o + 1) e2 h3 fun i h e k => by
      have := hs (i + 1) (by simpa using h) e (by rw [show o + (i + 1) = o + 1 + i by omega]; exact k)
      rw [show o + (i + 1) + 1 = o + 1 + i + 1 by omega] at this
      exact this
    refine ⟨e, ?_, by rw [List.length_cons, show o + (xs.length + 1) = o + 1 + xs.length by omega]; exact h5⟩
    rw [ev_for_cons, show (x :: xs)[0] = x from rfl] at *
    rw [h1, R.ok_bind]
    rcases h2 with h2 | h2
    · rw [h2, R.ok_bind, ev_lo_nx]; exact h4
    · rw [h2, R.ok_bind, ev_lo_ct]; exact h4
theorem while_nx {t : Ev → R Bool} {g : Ev → R Out} (I : Nat → Ev → Prop) (Q : Ev → Prop)
    (hs : ∀ (m : Nat) (e : Ev), I m e → (t e = .ok false ∧ Q e) ∨ (t e = .ok true ∧ ∃ e2 m', g e = .ok (.nx e2) ∧ m' < m ∧ I m' e2)) : ∀ (N m : Nat) (e0 : Ev), I m e0 → m < N → ∃ e, whileR t g N e0 = .ok (.nx e) ∧ Q e
  | 0, m, e0, _, h => by omega
  | N + 1, m, e0, h0, h => by
    rcases hs m e0 h0 with ⟨h1, h2⟩ | ⟨h1, e2, m', h2, h3, h4⟩
    · refine ⟨e0, ?_, h2⟩
      rw [ev_wh_succ, h1, R.ok_bind]; rfl
    · obtain ⟨e, h5, h6⟩ := while_nx I Q hs N m' e2 h4 (by omega)
      refine ⟨e, ?_, h6⟩
      rw [ev_wh_succ, h1, R.ok_bind, if_pos rfl, h2, R.ok_bind, ev_lo_nx]; exact h5
theorem lcR_map {α : Type} (enc : α → PyData) (f' : α → PyData) {gg : PyData → Ev → R Ev} {t : Ev → R Bool} {f : Ev → R PyData} {env : Ev} : ∀ (xs : List α),
    (∀ x ∈ xs, ∃ e, gg (enc x) env = .ok e ∧ t e = .ok true ∧ f e = .ok (f' x)) → lcR gg t f env (xs.map enc) = .ok (xs.map f')
  | [], _ => rfl
  | x :: xs, h => by
    obtain ⟨e, h1, h2, h3⟩ := h x (by simp)
    rw [List.map_cons, ev_lc_cons, h1, R.ok_bind, h2, R.ok_bind, if_pos rfl, h3, R.ok_bind, lcR_map enc f' xs fun y hy => h y (by simp [hy])]; rfl
theorem lcR_filter {α : Type} (enc : α → PyData) (p : α → Bool) (f' : α → PyData) {gg : PyData → Ev → R Ev} {t : Ev → R Bool} {f : Ev → R PyData} {env : Ev} : ∀ (xs : List α),
    (∀ x ∈ xs, ∃ e, gg (enc x) env = .ok e ∧ t e = .ok (p x) ∧ (p x = true → f e = .ok (f' x))) → lcR gg t f env (xs.map enc) = .ok ((xs.filter p).map f')
  | [], _ => rfl
  | x :: xs, h => by
    obtain ⟨e, h1, h2, h3⟩ := h x (by simp)
    rw [List.map_cons, ev_lc_cons, h1, R.ok_bind, h2, R.ok_bind, lcR_filter enc p f' xs fun y hy => h y (by simp [hy]), List.filter_cons]
    cases e4 : p x with
    | true => rw [if_pos rfl, if_pos rfl, h3 e4]; rfl
    | false => rw [if_neg (by simp), if_neg (by simp)]
/-! ### what an answer is -/
def Ok {α : Type} (r : R α) (P : α → Prop) : Prop := ∃ a, r = .ok a ∧ P a
theorem Ok.bind {α β : Type} {r : R α} {f : α → R β} {P : β → Prop} (h : Ok r fun a => Ok (f a) P) : Ok (r.bind f) P := by
  obtain ⟨a, h1, h2⟩ := h
  rw [h1]; exact h2
theorem Ok.ret {α : Type} {a : α} {P : α → Prop} (h : P a) : Ok (.ok a) P := ⟨a, rfl, h⟩
theorem Ok_ok {α : Type} (a : α) (P : α → Prop) : Ok (.ok a) P = P a := propext ⟨fun ⟨b, h, k⟩ => by cases h; exact k, fun h => ⟨a, rfl, h⟩⟩
theorem Ok_bind {α β : Type} (r : R α) (f : α → R β) (P : β → Prop) : Ok (r.bind f) P = Ok r (fun a => Ok (f a) P) := propext ⟨fun ⟨b, h, k⟩ => (by
  cases r with
  | ok a => exact ⟨a, rfl, b, h, k⟩
  | exc c => cases h
  | bad => cases h), fun h => Ok.bind h⟩
theorem Ok_noexc {α : Type} (r : R α) (P : α → Prop) : Ok (noexc r) P = Ok r P := by
  cases r with
  | ok a => rfl
  | exc c => exact propext ⟨fun ⟨_, h, _⟩ => (by cases h), fun ⟨_, h, _⟩ => (by cases h)⟩
  | bad => rfl
theorem Ok.mono {α : Type} {r : R α} {P Q : α → Prop} (h : Ok r P) (k : ∀ a, P a → Q a) : Ok r Q := by
  obtain ⟨a, h1, h2⟩ := h
  exact ⟨a, h1, k a h2⟩
theorem Ok.eq {α : Type} {r : R α} {a : α} (h : Ok r fun x => x = a) : r = .ok a := by
  obtain ⟨x, h1, h2⟩ := h
  rw [h1, h2]
theorem while_ok {t : Ev → R Bool} {g : Ev → R Out} {N : Nat} {e0 : Ev} {P : Out → Prop} (I : Nat → Ev → Prop) (m : Nat) (hm : m < N) (h0 : I m e0)
    (hs : ∀ (m : Nat) (e : Ev), I m e → ∃ b, t e = .ok b ∧ (b = false → P (.nx e)) ∧ (b = true → Ok (g e) fun o => ∃ e2 m', o = .nx e2 ∧ m' < m ∧ I m' e2)) : Ok (whileR t g N e0) P := by
  obtain ⟨e, h1, h2⟩ := while_nx (t := t) (g := g) I (fun e => P (.nx e)) (fun m e i => by
    obtain ⟨b, b1, b2, b3⟩ := hs m e i
    cases b with
    | false => exact .inl ⟨b1, b2 rfl⟩
    | true =>
      obtain ⟨o, h2, e2, m', h3, h4, h5⟩ := b3 rfl
      exact .inr ⟨b1, e2, m', by rw [h2, h3], h4, h5⟩) N m e0 h0 hm
  exact ⟨_, h1, h2⟩
theorem lcR_all {P : PyData → Prop} {gg : PyData → Ev → R Ev} {t : Ev → R Bool} {f : Ev → R PyData} {env : Ev} : ∀ (xs : List PyData),
    (∀ x ∈ xs, Ok (gg x env) fun e => t e = .ok true ∧ Ok (f e) P) → Ok (lcR gg t f env xs) fun ds => ds.length = xs.length ∧ ∀ d ∈ ds, P d
  | [], _ => ⟨[], rfl, rfl, by simp⟩
  | x :: xs, h => by
    obtain ⟨e, h1, h2, d, h3, h4⟩ := h x (by simp)
    obtain ⟨ds, h5, h6, h7⟩ := lcR_all xs fun y hy => h y (by simp [hy])
    refine ⟨d :: ds, ?_, by simp [h6], fun z hz => ?_⟩
    · rw [ev_lc_cons, h1, R.ok_bind, h2, R.ok_bind, if_pos rfl, h3, R.ok_bind, h5]; rfl
    · rcases List.mem_cons.mp hz with h | h
      · rw [h]; exact h4
      · exact h7 z h
theorem range_ok (m : Int) (n : Nat) : ∀ x ∈ rangeL m n, ∃ k : Nat, k < n ∧ x = .int (m + (k : Int)) := fun x hx => by
  unfold rangeL at hx
  obtain ⟨k, h1, h2⟩ := List.mem_map.mp hx
  exact ⟨k, List.mem_range.mp h1, h2.symm⟩
theorem range_get (m : Int) (n i : Nat) (h : i < (rangeL m n).length) : (rangeL m n)[i] = .int (m + (i : Int)) := (by
  show ((List.range n).map fun (k : Nat) => PyData.int (m + (k : Int)))[i]'(by simpa [rangeL] using h) = _
  rw [List.getElem_map, List.getElem_range])
theorem range_len (m : Int) (n : Nat) : (rangeL m n).length = n := by unfold rangeL; simp
theorem all_map {α : Type} {enc : α → PyData} {Q : α → Prop} : ∀ (ds : List PyData), (∀ d ∈ ds, ∃ a, Q a ∧ d = enc a) → ∃ xs : List α, ds = xs.map enc ∧ ∀ a ∈ xs, Q a
  | [], _ => ⟨[], rfl, by simp⟩
  | d :: r, h => by
    obtain ⟨a, h1, h2⟩ := h d (by simp)
    obtain ⟨xs, h3, h4⟩ := all_map r fun d hd => h d (by simp [hd])
    refine ⟨a :: xs, by rw [h2, h3]; rfl, fun b hb => ?_⟩
    rcases List.mem_cons.mp hb with h | h
    · rw [h]; exact h1
    · exact h4 b h
theorem for_ok {gg : PyData → Ev → R Ev} {g : Ev → R Out} {xs : List PyData} {e0 : Ev} {P : Out → Prop} (I : Nat → Ev → Prop) (h0 : I 0 e0)
    (hs : ∀ (i : Nat) (h : i < xs.length) (e : Ev), I i e → Ok (gg xs[i] e) fun e1 => Ok (g e1) fun o => ∃ e2, (o = .nx e2 ∨ o = .ct e2) ∧ I (i + 1) e2) (hp : ∀ e, I xs.length e → P (.nx e)) : Ok (forR gg g xs e0) P := by
  obtain ⟨e, h1, h2⟩ := forR_nx (gg := gg) (g := g) I xs 0 e0 h0 fun i h e k => by
    rw [Nat.zero_add] at k ⊢
    obtain ⟨e1, a1, o, a2, e2, a3, a4⟩ := hs i h e k
    refine ⟨e1, e2, a1, ?_, a4⟩
    rcases a3 with a3 | a3
    · exact .inl (by rw [a2, a3])
    · exact .inr (by rw [a2, a3])
  rw [Nat.zero_add] at h2
  exact ⟨_, h1, hp e h2⟩
theorem atI_ok {α : Type} (xs : List α) (i : Nat) (h : i < xs.length) : atI xs (i : Int) = some xs[i] := by
  unfold atI ixN
  rw [if_pos (by omega), if_pos (by omega)]
  show xs[(i : Int).toNat]? = _
  rw [Int.toNat_natCast, List.getElem?_eq_getElem h]
theorem atI_mem {α : Type} (xs : List α) (i : Int) (h0 : 0 ≤ i) (h : i < xs.length) : ∃ a, a ∈ xs ∧ atI xs i = some a := by
  obtain ⟨k, rfl⟩ := Int.eq_ofNat_of_zero_le h0
  exact ⟨xs[k]'(by omega), List.getElem_mem _, atI_ok xs k (by omega)⟩
theorem at_0 {α : Type} (a : α) (r : List α) : atI (a :: r) 0 = some a := atI_ok (a :: r) 0 (by simp)
theorem at_1 {α : Type} (a b : α) (r : List α) : atI (a :: b :: r) 1 = some b := atI_ok (a :: b :: r) 1 (by simp)
theorem at_2 {α : Type} (a b c : α) (r : List α) : atI (a :: b :: c :: r) 2 = some c := atI_ok (a :: b :: c :: r) 2 (by simp)
theorem at_3 {α : Type} (a b c d : α) (r : List α) : atI (a :: b :: c :: d :: r) 3 = some d := atI_ok (a :: b :: c :: d :: r) 3 (by simp)
theorem at_4 {α : Type} (a b c d e : α) (r : List α) : atI (a :: b :: c :: d :: e :: r) 4 = some e := atI_ok (a :: b :: c :: d :: e :: r) 4 (by simp)
def mixZ (c p m : Int) : Int := (c * 48271 % p) * (c * 48271 % p + 7) % p % m
theorem mixZ_nn (c p : Int) {m : Int} (hm : 0 < m) : 0 ≤ mixZ c p m := Int.emod_nonneg _ (by omega)
theorem mixZ_lt (c p : Int) {m : Int} (hm : 0 < m) : mixZ c p m < m := Int.emod_lt_of_pos _ hm
theorem mix_ok (c p m : Int) (hp : 0 < p) (hp2 : p < 1000000) (hm : 0 < m) : m_law_mix [.val (.int c), .val (.int p), .val (.int m)] = .ok (.int (mixZ c p m)) := by
  have h1 : c.natAbs < 18446744073709551616 ∨ (48271 : Int).natAbs < 18446744073709551616 := .inr (by decide)
  have hb0 : 0 ≤ c * 48271 % p := Int.emod_nonneg _ (by omega)
  have hb1 : c * 48271 % p < p := Int.emod_lt_of_pos _ hp
  have h2 : (c * 48271 % p).natAbs < 18446744073709551616 ∨ (c * 48271 % p + 7).natAbs < 18446744073709551616 := .inl (by omega)
  unfold m_law_mix b_law_mix
  simp_arith [h1, h2, hp, hm]
  rfl
theorem cell_ok (ns : List Int) (k : Int) (h : 0 ≤ k) : ∃ i, m_law_cell [.scr ns, .val (.int k)] = .ok (.int i) := by
  unfold m_law_cell b_law_cell
  by_cases hk : k < (ns.length : Int)
  · obtain ⟨a, _, e⟩ := atI_mem ns k h hk
    exact ⟨a, by simp_arith [hk, e]⟩
  · exact ⟨0, by simp_arith [hk]⟩
end LB

namespace LB
open PySem PySem.Spec PyProof.Rows L2 L3
local macro_rules | `(tactic| walk_at "ev") => `(tactic| simp only [ev_dVar, ev_dOwn, ev_dC, ev_d2, ev_d1, ev_dTest, ev_dChain, ev_dChain3, ev_dTr, ev_dNot, ev_dAnd, ev_dOr, ev_dAndV, ev_dOrV, ev_dNotV, ev_dIf, ev_oNone, ev_oSome, ev_dSlice, ev_dSlice3, ev_lNil, ev_lCons, ev_dTup, ev_dLst, ev_aNil, ev_aCons, ev_aScr, ev_dCall, ev_dScrLen, ev_dScrIx, ev_dSm1, ev_iItems1, ev_iRange1, ev_iRange2, ev_iRange3, ev_dPgLen, ev_sPgApp, ev_sPgPush, ev_sPgNil, ev_sPgNew, ev_sFreezeP, ev_sCallB, ev_dOrX, ev_dDctIx, ev_dDctGet, ev_dDctNin, ev_dDctKeys, ev_sDctNew, ev_sDctSet, ev_sDctOf, ev_iEnumD, ev_iZipD, ev_tTrue, ev_dLcx, ev_sNil, ev_sSeq, ev_sFreeze, ev_sAsg, ev_sPar, ev_sOwnL, ev_sAppend, ev_sExtend, ev_sRet, ev_sRetOwn, ev_sRetN, ev_sIf, ev_sDrop, ev_sWhile, ev_sFor, ev_sRaise, ev_dLm1, ev_dIsE, ev_dIsVE, ev_dNoneX, ev_aExc, ev_sMovE, ev_sTry, ev_gN_, ev_gTt, ev_gsC_, ev_gsN_, ev_seq_nx, ev_seq_rt, ev_seq_bk, ev_seq_ct, ev_lo_nx, ev_lo_rt, ev_lo_bk, ev_lo_ct, ev_out_nx, ev_out_rt, ev_den_, ev_guard_, ev_asBool_, ev_asInt_, ev_asStr_, ev_tr_none, ev_tr_bool, ev_tr_int, ev_tr_str, ev_tr_list, ev_tr_tuple, ev_add_ii, ev_add_ss, ev_add_tt, ev_add_ll, ev_sub_ii, ev_mul_ii, ev_mul_si, ev_mul_li, ev_mul_ti, ev_mod_ii, ev_div_ii, ev_neg_i, ev_eq_ss, ev_eq_ii, ev_ne_ss, ev_ne_ii, ev_lt_ii, ev_lt_ss, ev_le_ii, ev_le_ss, ev_ge_ii, ev_gt_ii, ev_is_bb, ev_isn_, ev_in_ss, ev_notIn_, ev_ix_l, ev_ix_t, ev_ix_s, ev_sl_l, ev_sl_t, ev_sl_s, ev_slS_l, ev_mkTup_, ev_mkLst_, ev_len_s, ev_len_l, ev_len_t, ev_int_i, ev_int_b, ev_tup_l, ev_tup_t, ev_lst_l, ev_lst_t, ev_sum_l, ev_all_l, ev_max1_l, ev_max2_, ev_min2_, ev_asList_, ev_clr_nx, ev_clr_rt, ev_tr_nx, ev_tr_rt, ev_seq_rb, ev_seq_ex, ev_lo_rb, ev_lo_ex, ev_outB_nx, ev_outB_rb, ev_outB_ex, ev_nxB_, ev_pgsOf_b, ev_bigOf_b, ev_bigOf_s, ev_putB_, ev_lastD_, ev_dctOf_b, ev_frP_, ev_countD_, ev_indexD_, ev_isTD_, ev_isTD2_, ev_items_l, ev_items_t, ev_items_s, ev_itS_l, ev_itS_t, ev_strip_, ev_join_, ev_split_, ev_starts_, ev_ends_, ev_opt_some, ev_opt_none, ev_noexc_ok, ev_lc_nil, ev_lc_cons, ev_for_nil, ev_wipe_nil, ev_wipe_cons, ev_fr_, ev_scr_, ev_isT_tuple_n, ev_isT_tuple_b, ev_isT_tuple_i, ev_isT_tuple_s, ev_isT_tuple_t, ev_isT_tuple_l, ev_isT_bool_n, ev_isT_bool_b, ev_isT_bool_i, ev_isT_bool_s, ev_isT_bool_t, ev_isT_bool_l, ev_isT_int_n, ev_isT_int_b, ev_isT_int_i, ev_isT_int_s, ev_isT_int_t, ev_isT_int_l, ev_isT_str_n, ev_isT_str_b, ev_isT_str_i, ev_isT_str_s, ev_isT_str_t, ev_isT_str_l, ev_isT_list_n, ev_isT_list_b, ev_isT_list_i, ev_isT_list_s, ev_isT_list_t, ev_isT_list_l, ev_is_nn, ev_is_bn, ev_is_in, ev_is_sn, ev_is_tn, ev_is_ln, BIG_eq, Ok_bind, Ok_ok, Ok_noexc, at_0, at_1, at_2, at_3, at_4, R.ok_bind, R.exc_bind, R.bad_bind, sget_cons_zero, sget_cons_succ, List.set_cons_zero, List.set_cons_succ, List.cons_append, List.nil_append, List.append_nil, List.length_cons, List.length_nil, List.replicate_succ, List.replicate_zero, ite_true, ite_false, Bool.not_true, Bool.not_false, Bool.false_eq_true, decide_eq_true_eq, Nat.zero_add, ↓reduceIte, Nat.reduceAdd, Int.reduceLT, Int.reduceLE, Int.reduceAdd, Int.reduceSub, Int.reduceMul, Int.reduceNeg, LIM_eq, Int.reduceAbs, Nat.reduceLT, true_or, or_true, true_and, and_true, Int.natAbs_natCast, Int.toNat_natCast, Nat.mul_zero, Nat.add_zero, Int.reduceToNat, List.flatten_nil, List.flatten_cons, List.length_append, List.length_map, Int.zero_add, ne_eq, not_false_eq_true, not_true_eq_false,  Nat.reduceSub, Nat.reduceLeDiff, Nat.reduceEqDiff, decide_true, decide_false, Bool.and_true, Bool.true_and, Bool.and_false, Bool.false_and, Bool.or_true, Bool.true_or, Bool.or_false, Bool.false_or])
local macro_rules | `(tactic| simp_arith [$xs,*]) => `(tactic| simp only [ev_dVar, ev_dOwn, ev_dC, ev_d2, ev_d1, ev_dTest, ev_dChain, ev_dChain3, ev_dTr, ev_dNot, ev_dAnd, ev_dOr, ev_dAndV, ev_dOrV, ev_dNotV, ev_dIf, ev_oNone, ev_oSome, ev_dSlice, ev_dSlice3, ev_lNil, ev_lCons, ev_dTup, ev_dLst, ev_aNil, ev_aCons, ev_aScr, ev_dCall, ev_dScrLen, ev_dScrIx, ev_dSm1, ev_iItems1, ev_iRange1, ev_iRange2, ev_iRange3, ev_dPgLen, ev_sPgApp, ev_sPgPush, ev_sPgNil, ev_sPgNew, ev_sFreezeP, ev_sCallB, ev_dOrX, ev_dDctIx, ev_dDctGet, ev_dDctNin, ev_dDctKeys, ev_sDctNew, ev_sDctSet, ev_sDctOf, ev_iEnumD, ev_iZipD, ev_tTrue, ev_dLcx, ev_sNil, ev_sSeq, ev_sFreeze, ev_sAsg, ev_sPar, ev_sOwnL, ev_sAppend, ev_sExtend, ev_sRet, ev_sRetOwn, ev_sRetN, ev_sIf, ev_sDrop, ev_sWhile, ev_sFor, ev_sRaise, ev_dLm1, ev_dIsE, ev_dIsVE, ev_dNoneX, ev_aExc, ev_sMovE, ev_sTry, ev_gN_, ev_gTt, ev_gsC_, ev_gsN_, ev_seq_nx, ev_seq_rt, ev_seq_bk, ev_seq_ct, ev_lo_nx, ev_lo_rt, ev_lo_bk, ev_lo_ct, ev_out_nx, ev_out_rt, ev_den_, ev_guard_, ev_asBool_, ev_asInt_, ev_asStr_, ev_tr_none, ev_tr_bool, ev_tr_int, ev_tr_str, ev_tr_list, ev_tr_tuple, ev_add_ii, ev_add_ss, ev_add_tt, ev_add_ll, ev_sub_ii, ev_mul_ii, ev_mul_si, ev_mul_li, ev_mul_ti, ev_mod_ii, ev_div_ii, ev_neg_i, ev_eq_ss, ev_eq_ii, ev_ne_ss, ev_ne_ii, ev_lt_ii, ev_lt_ss, ev_le_ii, ev_le_ss, ev_ge_ii, ev_gt_ii, ev_is_bb, ev_isn_, ev_in_ss, ev_notIn_, ev_ix_l, ev_ix_t, ev_ix_s, ev_sl_l, ev_sl_t, ev_sl_s, ev_slS_l, ev_mkTup_, ev_mkLst_, ev_len_s, ev_len_l, ev_len_t, ev_int_i, ev_int_b, ev_tup_l, ev_tup_t, ev_lst_l, ev_lst_t, ev_sum_l, ev_all_l, ev_max1_l, ev_max2_, ev_min2_, ev_asList_, ev_clr_nx, ev_clr_rt, ev_tr_nx, ev_tr_rt, ev_seq_rb, ev_seq_ex, ev_lo_rb, ev_lo_ex, ev_outB_nx, ev_outB_rb, ev_outB_ex, ev_nxB_, ev_pgsOf_b, ev_bigOf_b, ev_bigOf_s, ev_putB_, ev_lastD_, ev_dctOf_b, ev_frP_, ev_countD_, ev_indexD_, ev_isTD_, ev_isTD2_, ev_items_l, ev_items_t, ev_items_s, ev_itS_l, ev_itS_t, ev_strip_, ev_join_, ev_split_, ev_starts_, ev_ends_, ev_opt_some, ev_opt_none, ev_noexc_ok, ev_lc_nil, ev_lc_cons, ev_for_nil, ev_wipe_nil, ev_wipe_cons, ev_fr_, ev_scr_, ev_isT_tuple_n, ev_isT_tuple_b, ev_isT_tuple_i, ev_isT_tuple_s, ev_isT_tuple_t, ev_isT_tuple_l, ev_isT_bool_n, ev_isT_bool_b, ev_isT_bool_i, ev_isT_bool_s, ev_isT_bool_t, ev_isT_bool_l, ev_isT_int_n, ev_isT_int_b, ev_isT_int_i, ev_isT_int_s, ev_isT_int_t, ev_isT_int_l, ev_isT_str_n, ev_isT_str_b, ev_isT_str_i, ev_isT_str_s, ev_isT_str_t, ev_isT_str_l, ev_isT_list_n, ev_isT_list_b, ev_isT_list_i, ev_isT_list_s, ev_isT_list_t, ev_isT_list_l, ev_is_nn, ev_is_bn, ev_is_in, ev_is_sn, ev_is_tn, ev_is_ln, BIG_eq, Ok_bind, Ok_ok, Ok_noexc, at_0, at_1, at_2, at_3, at_4, R.ok_bind, R.exc_bind, R.bad_bind, sget_cons_zero, sget_cons_succ, List.set_cons_zero, List.set_cons_succ, List.cons_append, List.nil_append, List.append_nil, List.length_cons, List.length_nil, List.replicate_succ, List.replicate_zero, ite_true, ite_false, Bool.not_true, Bool.not_false, Bool.false_eq_true, decide_eq_true_eq, Nat.zero_add, ↓reduceIte, Nat.reduceAdd, Int.reduceLT, Int.reduceLE, Int.reduceAdd, Int.reduceSub, Int.reduceMul, Int.reduceNeg, LIM_eq, Int.reduceAbs, Nat.reduceLT, true_or, or_true, true_and, and_true, Int.natAbs_natCast, Int.toNat_natCast, Nat.mul_zero, Nat.add_zero, Int.reduceToNat, List.flatten_nil, List.flatten_cons, List.length_append, List.length_map, Int.zero_add, ne_eq, not_false_eq_true, not_true_eq_false,  Nat.reduceSub, Nat.reduceLeDiff, Nat.reduceEqDiff, decide_true, decide_false, Bool.and_true, Bool.true_and, Bool.and_false, Bool.false_and, Bool.or_true, Bool.true_or, Bool.or_false, Bool.false_or, $xs,*])
theorem lit_e : Str.ofString "" = st [] := by rfl
theorem lit_b : Str.ofString " " = st [32] := by rfl
theorem lit_bb : Str.ofString "  " = st [32, 32] := by rfl
def SIGNS : List Nat := [97, 98, 99, 100, 101, 102, 103, 104, 46, 44, 33, 63, 45, 34, 39, 48, 57, 40, 126]
theorem lit_signs : Str.ofString "abcdefgh.,!?-\"'09(~" = st SIGNS := by decide +kernel
theorem signs_ok : ∀ c ∈ SIGNS, 32 < c ∧ c ≤ 126 := by decide
/-- a text that grows -/
structure Gro (l : List Nat) : Prop where
  sign : ∀ c ∈ l, 32 ≤ c ∧ c ≤ 126
  fst : l[0]? ≠ some 32
  lst : l[l.length - 1]? ≠ some 32
  dbl : ∀ i : Nat, l[i]? = some 32 → l[i + 1]? = some 32 → False
theorem Gro.nil : Gro [] := ⟨by simp, by simp, by simp, by simp⟩
theorem Gro.of {l : List Nat} (h : ∀ c ∈ l, 32 < c ∧ c ≤ 126) : Gro l := by
  have h2 : ∀ i, l[i]? ≠ some 32 := fun i e => by
    have := h 32 (List.mem_of_getElem? e)
    omega
  exact ⟨fun c hc => ⟨by have := h c hc; omega, (h c hc).2⟩, h2 0, h2 _, fun i a _ => h2 i a⟩
theorem Gro.app {l p : List Nat} (g : Gro l) (hl : l ≠ []) (hp : p ≠ []) (h : ∀ c ∈ p, 32 < c ∧ c ≤ 126) : Gro (l ++ [32] ++ p) := by
  have gp := Gro.of h
  have h2 : ∀ i, p[i]? ≠ some 32 := fun i e => by
    have := h 32 (List.mem_of_getElem? e)
    omega
  have l1 : 0 < l.length := List.length_pos_iff.mpr hl
  have p1 : 0 < p.length := List.length_pos_iff.mpr hp
  refine ⟨?_, ?_, ?_, ?_⟩
  · intro c hc
    rw [List.mem_append, List.mem_append, List.mem_singleton] at hc
    rcases hc with (hc | hc) | hc
    · exact g.sign c hc
    · omega
    · exact gp.sign c hc
  · rw [List.append_assoc, List.getElem?_append_left l1]; exact g.fst
  · rw [List.getElem?_append_right (by simp; omega)]; exact h2 _
  · intro i a b
    rw [List.append_assoc, List.getElem?_append] at a b
    split at b
    · rename_i h1
      rw [if_pos (by omega)] at a
      exact g.dbl i a b
    · rename_i h1
      split at a
      · rename_i h3
        exact g.lst (by rw [show l.length - 1 = i by omega]; exact a)
      · rename_i h3
        have : i + 1 - l.length = (i - l.length) + 1 := by omega
        rw [this] at b
        exact h2 _ (by simpa using b)
theorem strs_map {α : Type} (f : α → List Nat) (xs : List α) : strsOf (xs.map fun x => PyData.str (st (f x))) = some (xs.map fun x => st (f x)) := by
  induction xs with
  | nil => rfl
  | cons x r ih =>
    show (strsOf (r.map fun x => PyData.str (st (f x)))).map (st (f x) :: ·) = _
    rw [ih]; rfl
theorem st_join0 (xs : List (List Nat)) : Txt.join (st []) (xs.map st) = st xs.flatten := by
  rw [TL.join_eq]
  apply TL.ext_tl
  rw [TL.tl_join]
  induction xs with
  | nil => rfl
  | cons x r ih =>
    cases r with
    | nil => simp [TL.joinL, TL.tl, st]
    | cons y r =>
      have e : TL.joinL (TL.tl (st [])) ((x :: y :: r).map fun x => TL.tl (st x)) = x ++ ([] ++ TL.joinL (TL.tl (st [])) ((y :: r).map fun x => TL.tl (st x))) := rfl
      rw [List.map_map] at ih ⊢
      show TL.joinL (TL.tl (st [])) ((x :: y :: r).map fun x => TL.tl (st x)) = _
      rw [e, List.nil_append]
      show x ++ TL.joinL (TL.tl (st [])) ((y :: r).map (TL.tl ∘ st)) = _
      rw [ih]
      rfl
theorem st_join1 (xs : List Nat) : Txt.join (st []) (xs.map fun a => st [a]) = st xs := by
  have h := st_join0 (xs.map fun a => [a])
  rw [List.map_map] at h
  have e : (xs.map fun a => [a]).flatten = xs := by
    clear h
    induction xs with
    | nil => rfl
    | cons x r ih => rw [List.map_cons, List.flatten_cons, ih]; rfl
  rw [e] at h
  exact h
theorem sum_one (xs : List Nat) : (List.map (fun x => x.length) (xs.map fun a => st [a])).sum = xs.length := by
  rw [List.map_map]
  induction xs with
  | nil => rfl
  | cons x r ih =>
    rw [List.map_cons, List.sum_cons, ih, List.length_cons]
    show (st [x]).length + _ = _
    rw [st_len, List.length_singleton]; omega
theorem c19 : ((19 : Nat) : Int) = 19 := rfl
theorem law_text_ok (c : Int) : Ok (m_law_text [.val (.int c)]) fun d => ∃ l, GT l ∧ d = .str (st l) := by
  unfold m_law_text b_law_text
  simp_arith [mix_ok, lit_e, lit_b, lit_signs]
  refine Ok.mono (P := fun o => ∃ m : Int, 1 ≤ m ∧ m ≤ 60 ∧ o = Out.nx [.val (.int c), .val (.str (st SIGNS)), .val (.int m), .emp, .emp, .emp, .emp, .emp]) ?_ ?_
  · split
    · obtain ⟨a, h1, h2⟩ := atI_mem [PyData.int 1, .int 2, .int 59, .int 60] (mixZ c 9949 4) (mixZ_nn _ _ (by omega)) (mixZ_lt _ _ (by decide))
      simp_arith [h2]
      simp only [List.mem_cons, List.mem_nil_iff, or_false] at h1
      rcases h1 with h1 | h1 | h1 | h1 <;> subst h1 <;> exact ⟨_, by omega, by omega, rfl⟩
    · exact ⟨_, rfl, _, by have := mixZ_nn c 9973 (m := 60) (by omega); omega, by have := mixZ_lt c 9973 (m := 60) (by omega); omega, rfl⟩
  intro o ⟨m, m1, m2, e⟩
  subst e
  walk_at "ev"
  refine while_ok (fun n e => ∃ l w x5 x6 x7, Gro l ∧ l.length ≤ 90 ∧ n = 100 - l.length ∧ e = [.val (.int c), .val (.str (st SIGNS)), .val (.int m), .val (.str (st l)), .val (.int w), x5, x6, x7]) 100 (by omega) ⟨[], 0, _, _, _, Gro.nil, by simp, rfl, rfl⟩ ?_
  rintro n e ⟨l, w, x5, x6, x7, g, hl, rfl, rfl⟩
  refine ⟨decide ((l.length : Int) < m), by simp_arith [st_len, show l.length ≤ 1000000 by omega], fun hb => ?_, fun hb => ?_⟩
  · rw [decide_eq_false_iff_not] at hb
    simp_arith [st_len, show l.length ≤ 1000000 by omega, st_cut, lit_b]
    have hcut : cutD l none (some m) = l.take m.toNat := by
      obtain ⟨k, rfl⟩ := Int.eq_ofNat_of_zero_le (show 0 ≤ m by omega)
      unfold L3.cutD
      rw [HT.sIx_nat, HT.sIx_none, Int.toNat_natCast, Nat.sub_zero, List.drop_zero, Nat.min_eq_left (by omega)]
    rw [hcut]
    simp_arith [st_len, show (l.take m.toNat).length ≤ 1000000 by rw [List.length_take]; omega, st_strip]
    exact ⟨_, GT.cut g.fst (by omega) g.sign g.dbl m.toNat (by omega) (by omega), rfl⟩
  · rw [decide_eq_true_eq] at hb
    obtain ⟨q, q1, q2, qm⟩ : ∃ q : Int, 0 < q ∧ q ≤ 25 ∧ atI [PyData.int 4, .int 9, .int 25] (mixZ c 9931 3) = some (.int q) := by
      obtain ⟨a, h1, h2⟩ := atI_mem [PyData.int 4, .int 9, .int 25] (mixZ c 9931 3) (mixZ_nn _ _ (by omega)) (mixZ_lt _ _ (by decide))
      rw [h2]
      simp only [List.mem_cons, List.mem_nil_iff, or_false] at h1
      rcases h1 with h1 | h1 | h1 <;> subst h1 <;> exact ⟨_, by omega, by omega, rfl⟩
    have t1 := mixZ_nn (c + 7 * (w + 1)) 9941 q1
    have t2 := mixZ_lt (c + 7 * (w + 1)) 9941 q1
    simp_arith [mix_ok, lit_e, lit_b, lit_signs, qm, q1]
    generalize mixZ (c + 7 * (w + 1)) 9941 q = t at t1 t2 ⊢
    simp_arith [show (1 + t).natAbs ≤ 1000000 by omega, range_len, show (1 + t).toNat ≤ 1000000 by omega]
    refine Ok.mono (lcR_all (P := fun d => ∃ c, c ∈ SIGNS ∧ d = .str (st [c])) _ fun x hx => ?_) fun ds ⟨d1, d2⟩ => ?_
    · obtain ⟨k, k1, rfl⟩ := range_ok _ _ x hx
      simp_arith [mix_ok, st_len, show SIGNS.length = 19 from rfl, c19]
      have u1 := mixZ_nn (c + 11 * (w + 1) + 3 * (k : Int)) 9929 (show (0 : Int) < 19 by decide)
      have u2 := mixZ_lt (c + 11 * (w + 1) + 3 * (k : Int)) 9929 (show (0 : Int) < 19 by decide)
      obtain ⟨v, hv⟩ := Int.eq_ofNat_of_zero_le u1
      rw [hv] at u2 ⊢
      rw [st_tl, atI_ok SIGNS v (by show v < 19; omega)]
      walk_at "ev"
      exact ⟨_, List.getElem_mem _, rfl⟩
    · rw [range_len] at d1
      obtain ⟨xs, rfl, hx⟩ := all_map ds d2
      rw [List.length_map] at d1
      have hne : xs ≠ [] := fun e => by rw [e] at d1; simp at d1; omega
      have hxs : ∀ c ∈ xs, 32 < c ∧ c ≤ 126 := fun c hc => signs_ok c (hx c hc)
      simp_arith [strs_map (fun a => [a]), sum_one, st_join1, st_len, st_beq, show xs.length ≤ 1000000 by omega]
      cases l with
      | nil =>
        simp_arith [show (([] : List Nat) == []) = true from rfl, st_mul, st_app, st_len, show xs.length ≤ 1000000 by omega]
        exact ⟨_, 100 - xs.length, rfl, by omega, xs, w + 1, _, _, _, Gro.of hxs, by omega, rfl, rfl⟩
      | cons l0 lr =>
        rw [List.length_cons] at hb hl
        simp_arith [show ((l0 :: lr) == []) = false from rfl, st_mul, st_app, st_len, show xs.length ≤ 1000000 by omega, show lr.length + 1 + 1 ≤ 1000000 by omega, show lr.length + 1 + 1 + xs.length ≤ 1000000 by omega]
        have e : l0 :: (lr ++ [32] ++ xs) = (l0 :: lr) ++ [32] ++ xs := by simp
        have gl : (l0 :: (lr ++ [32] ++ xs)).length = lr.length + 1 + 1 + xs.length := by simp; omega
        refine ⟨_, 100 - (lr.length + 1 + 1 + xs.length), rfl, by omega, l0 :: (lr ++ [32] ++ xs), w + 1, _, _, _, ?_, by omega, by omega, rfl⟩
        rw [e]
        exact g.app (by simp) hne hxs
end LB

namespace LB
open PySem PySem.Spec PyProof.Rows L2 L3
local macro_rules | `(tactic| walk_at "ev") => `(tactic| simp only [ev_dVar, ev_dOwn, ev_dC, ev_d2, ev_d1, ev_dTest, ev_dChain, ev_dChain3, ev_dTr, ev_dNot, ev_dAnd, ev_dOr, ev_dAndV, ev_dOrV, ev_dNotV, ev_dIf, ev_oNone, ev_oSome, ev_dSlice, ev_dSlice3, ev_lNil, ev_lCons, ev_dTup, ev_dLst, ev_aNil, ev_aCons, ev_aScr, ev_dCall, ev_dScrLen, ev_dScrIx, ev_dSm1, ev_iItems1, ev_iRange1, ev_iRange2, ev_iRange3, ev_dPgLen, ev_sPgApp, ev_sPgPush, ev_sPgNil, ev_sPgNew, ev_sFreezeP, ev_sCallB, ev_dOrX, ev_dDctIx, ev_dDctGet, ev_dDctNin, ev_dDctKeys, ev_sDctNew, ev_sDctSet, ev_sDctOf, ev_iEnumD, ev_iZipD, ev_tTrue, ev_dLcx, ev_sNil, ev_sSeq, ev_sFreeze, ev_sAsg, ev_sPar, ev_sOwnL, ev_sAppend, ev_sExtend, ev_sRet, ev_sRetOwn, ev_sRetN, ev_sIf, ev_sDrop, ev_sWhile, ev_sFor, ev_sRaise, ev_dLm1, ev_dIsE, ev_dIsVE, ev_dNoneX, ev_aExc, ev_sMovE, ev_sTry, ev_gN_, ev_gTt, ev_gsC_, ev_gsN_, ev_seq_nx, ev_seq_rt, ev_seq_bk, ev_seq_ct, ev_lo_nx, ev_lo_rt, ev_lo_bk, ev_lo_ct, ev_out_nx, ev_out_rt, ev_den_, ev_guard_, ev_asBool_, ev_asInt_, ev_asStr_, ev_tr_none, ev_tr_bool, ev_tr_int, ev_tr_str, ev_tr_list, ev_tr_tuple, ev_add_ii, ev_add_ss, ev_add_tt, ev_add_ll, ev_sub_ii, ev_mul_ii, ev_mul_si, ev_mul_li, ev_mul_ti, ev_mod_ii, ev_div_ii, ev_neg_i, ev_eq_ss, ev_eq_ii, ev_ne_ss, ev_ne_ii, ev_lt_ii, ev_lt_ss, ev_le_ii, ev_le_ss, ev_ge_ii, ev_gt_ii, ev_is_bb, ev_isn_, ev_in_ss, ev_notIn_, ev_ix_l, ev_ix_t, ev_ix_s, ev_sl_l, ev_sl_t, ev_sl_s, ev_slS_l, ev_mkTup_, ev_mkLst_, ev_len_s, ev_len_l, ev_len_t, ev_int_i, ev_int_b, ev_tup_l, ev_tup_t, ev_lst_l, ev_lst_t, ev_sum_l, ev_all_l, ev_max1_l, ev_max2_, ev_min2_, ev_asList_, ev_clr_nx, ev_clr_rt, ev_tr_nx, ev_tr_rt, ev_seq_rb, ev_seq_ex, ev_lo_rb, ev_lo_ex, ev_outB_nx, ev_outB_rb, ev_outB_ex, ev_nxB_, ev_pgsOf_b, ev_bigOf_b, ev_bigOf_s, ev_putB_, ev_lastD_, ev_dctOf_b, ev_frP_, ev_countD_, ev_indexD_, ev_isTD_, ev_isTD2_, ev_items_l, ev_items_t, ev_items_s, ev_itS_l, ev_itS_t, ev_strip_, ev_join_, ev_split_, ev_starts_, ev_ends_, ev_opt_some, ev_opt_none, ev_noexc_ok, ev_lc_nil, ev_lc_cons, ev_for_nil, ev_wipe_nil, ev_wipe_cons, ev_fr_, ev_scr_, ev_isT_tuple_n, ev_isT_tuple_b, ev_isT_tuple_i, ev_isT_tuple_s, ev_isT_tuple_t, ev_isT_tuple_l, ev_isT_bool_n, ev_isT_bool_b, ev_isT_bool_i, ev_isT_bool_s, ev_isT_bool_t, ev_isT_bool_l, ev_isT_int_n, ev_isT_int_b, ev_isT_int_i, ev_isT_int_s, ev_isT_int_t, ev_isT_int_l, ev_isT_str_n, ev_isT_str_b, ev_isT_str_i, ev_isT_str_s, ev_isT_str_t, ev_isT_str_l, ev_isT_list_n, ev_isT_list_b, ev_isT_list_i, ev_isT_list_s, ev_isT_list_t, ev_isT_list_l, ev_is_nn, ev_is_bn, ev_is_in, ev_is_sn, ev_is_tn, ev_is_ln, BIG_eq, Ok_bind, Ok_ok, Ok_noexc, at_0, at_1, at_2, at_3, at_4, R.ok_bind, R.exc_bind, R.bad_bind, sget_cons_zero, sget_cons_succ, List.set_cons_zero, List.set_cons_succ, List.cons_append, List.nil_append, List.append_nil, List.length_cons, List.length_nil, List.replicate_succ, List.replicate_zero, ite_true, ite_false, Bool.not_true, Bool.not_false, Bool.false_eq_true, decide_eq_true_eq, Nat.zero_add, ↓reduceIte, Nat.reduceAdd, Int.reduceLT, Int.reduceLE, Int.reduceAdd, Int.reduceSub, Int.reduceMul, Int.reduceNeg, LIM_eq, Int.reduceAbs, Nat.reduceLT, true_or, or_true, true_and, and_true, Int.natAbs_natCast, Int.toNat_natCast, Nat.mul_zero, Nat.add_zero, Int.reduceToNat, List.flatten_nil, List.flatten_cons, List.length_append, List.length_map, Int.zero_add, ne_eq, not_false_eq_true, not_true_eq_false,  Nat.reduceSub, Nat.reduceLeDiff, Nat.reduceEqDiff, decide_true, decide_false, Bool.and_true, Bool.true_and, Bool.and_false, Bool.false_and, Bool.or_true, Bool.true_or, Bool.or_false, Bool.false_or])
local macro_rules | `(tactic| simp_arith [$xs,*]) => `(tactic| simp only [ev_dVar, ev_dOwn, ev_dC, ev_d2, ev_d1, ev_dTest, ev_dChain, ev_dChain3, ev_dTr, ev_dNot, ev_dAnd, ev_dOr, ev_dAndV, ev_dOrV, ev_dNotV, ev_dIf, ev_oNone, ev_oSome, ev_dSlice, ev_dSlice3, ev_lNil, ev_lCons, ev_dTup, ev_dLst, ev_aNil, ev_aCons, ev_aScr, ev_dCall, ev_dScrLen, ev_dScrIx, ev_dSm1, ev_iItems1, ev_iRange1, ev_iRange2, ev_iRange3, ev_dPgLen, ev_sPgApp, ev_sPgPush, ev_sPgNil, ev_sPgNew, ev_sFreezeP, ev_sCallB, ev_dOrX, ev_dDctIx, ev_dDctGet, ev_dDctNin, ev_dDctKeys, ev_sDctNew, ev_sDctSet, ev_sDctOf, ev_iEnumD, ev_iZipD, ev_tTrue, ev_dLcx, ev_sNil, ev_sSeq, ev_sFreeze, ev_sAsg, ev_sPar, ev_sOwnL, ev_sAppend, ev_sExtend, ev_sRet, ev_sRetOwn, ev_sRetN, ev_sIf, ev_sDrop, ev_sWhile, ev_sFor, ev_sRaise, ev_dLm1, ev_dIsE, ev_dIsVE, ev_dNoneX, ev_aExc, ev_sMovE, ev_sTry, ev_gN_, ev_gTt, ev_gsC_, ev_gsN_, ev_seq_nx, ev_seq_rt, ev_seq_bk, ev_seq_ct, ev_lo_nx, ev_lo_rt, ev_lo_bk, ev_lo_ct, ev_out_nx, ev_out_rt, ev_den_, ev_guard_, ev_asBool_, ev_asInt_, ev_asStr_, ev_tr_none, ev_tr_bool, ev_tr_int, ev_tr_str, ev_tr_list, ev_tr_tuple, ev_add_ii, ev_add_ss, ev_add_tt, ev_add_ll, ev_sub_ii, ev_mul_ii, ev_mul_si, ev_mul_li, ev_mul_ti, ev_mod_ii, ev_div_ii, ev_neg_i, ev_eq_ss, ev_eq_ii, ev_ne_ss, ev_ne_ii, ev_lt_ii, ev_lt_ss, ev_le_ii, ev_le_ss, ev_ge_ii, ev_gt_ii, ev_is_bb, ev_isn_, ev_in_ss, ev_notIn_, ev_ix_l, ev_ix_t, ev_ix_s, ev_sl_l, ev_sl_t, ev_sl_s, ev_slS_l, ev_mkTup_, ev_mkLst_, ev_len_s, ev_len_l, ev_len_t, ev_int_i, ev_int_b, ev_tup_l, ev_tup_t, ev_lst_l, ev_lst_t, ev_sum_l, ev_all_l, ev_max1_l, ev_max2_, ev_min2_, ev_asList_, ev_clr_nx, ev_clr_rt, ev_tr_nx, ev_tr_rt, ev_seq_rb, ev_seq_ex, ev_lo_rb, ev_lo_ex, ev_outB_nx, ev_outB_rb, ev_outB_ex, ev_nxB_, ev_pgsOf_b, ev_bigOf_b, ev_bigOf_s, ev_putB_, ev_lastD_, ev_dctOf_b, ev_frP_, ev_countD_, ev_indexD_, ev_isTD_, ev_isTD2_, ev_items_l, ev_items_t, ev_items_s, ev_itS_l, ev_itS_t, ev_strip_, ev_join_, ev_split_, ev_starts_, ev_ends_, ev_opt_some, ev_opt_none, ev_noexc_ok, ev_lc_nil, ev_lc_cons, ev_for_nil, ev_wipe_nil, ev_wipe_cons, ev_fr_, ev_scr_, ev_isT_tuple_n, ev_isT_tuple_b, ev_isT_tuple_i, ev_isT_tuple_s, ev_isT_tuple_t, ev_isT_tuple_l, ev_isT_bool_n, ev_isT_bool_b, ev_isT_bool_i, ev_isT_bool_s, ev_isT_bool_t, ev_isT_bool_l, ev_isT_int_n, ev_isT_int_b, ev_isT_int_i, ev_isT_int_s, ev_isT_int_t, ev_isT_int_l, ev_isT_str_n, ev_isT_str_b, ev_isT_str_i, ev_isT_str_s, ev_isT_str_t, ev_isT_str_l, ev_isT_list_n, ev_isT_list_b, ev_isT_list_i, ev_isT_list_s, ev_isT_list_t, ev_isT_list_l, ev_is_nn, ev_is_bn, ev_is_in, ev_is_sn, ev_is_tn, ev_is_ln, BIG_eq, Ok_bind, Ok_ok, Ok_noexc, at_0, at_1, at_2, at_3, at_4, R.ok_bind, R.exc_bind, R.bad_bind, sget_cons_zero, sget_cons_succ, List.set_cons_zero, List.set_cons_succ, List.cons_append, List.nil_append, List.append_nil, List.length_cons, List.length_nil, List.replicate_succ, List.replicate_zero, ite_true, ite_false, Bool.not_true, Bool.not_false, Bool.false_eq_true, decide_eq_true_eq, Nat.zero_add, ↓reduceIte, Nat.reduceAdd, Int.reduceLT, Int.reduceLE, Int.reduceAdd, Int.reduceSub, Int.reduceMul, Int.reduceNeg, LIM_eq, Int.reduceAbs, Nat.reduceLT, true_or, or_true, true_and, and_true, Int.natAbs_natCast, Int.toNat_natCast, Nat.mul_zero, Nat.add_zero, Int.reduceToNat, List.flatten_nil, List.flatten_cons, List.length_append, List.length_map, Int.zero_add, ne_eq, not_false_eq_true, not_true_eq_false,  Nat.reduceSub, Nat.reduceLeDiff, Nat.reduceEqDiff, decide_true, decide_false, Bool.and_true, Bool.true_and, Bool.and_false, Bool.false_and, Bool.or_true, Bool.true_or, Bool.or_false, Bool.false_or, $xs,*])
/-! ### lines -/
def blankAt (l : List Nat) (k : Nat) : Bool := l[k]? == some 32
def lineEnd (l : List Nat) (b w : Nat) : Nat := if l.length ≤ b + w then l.length else match ((List.range w).filter fun k => blankAt l (b + 1 + k)).getLast? with
  | some k => b + 1 + k
  | none => b + w
def nextB (l : List Nat) (e : Nat) : Nat := if blankAt l e = true then e + 1 else e
def linesF (l : List Nat) (w : Nat) : Nat → Nat → List (Nat × Nat)
  | 0, _ => []
  | n + 1, b => if b < l.length then (b, lineEnd l b w) :: linesF l w n (nextB l (lineEnd l b w)) else []
def linesL (l : List Nat) (w : Nat) : List (Nat × Nat) := linesF l w (l.length + 1) 0
def encL (p : Nat × Nat) : PyData := .tuple [.int p.1, .int p.2]
theorem atI_last {α : Type} (xs : List α) (h : xs ≠ []) : atI xs (-1) = some (xs.getLast h) := by
  have : 0 < xs.length := List.length_pos_iff.mpr h
  unfold atI ixN
  rw [if_neg (by omega)]
  split
  · show xs[_]? = _
    rw [List.getLast_eq_getElem, List.getElem?_eq_getElem (by omega)]
    congr 2
    omega
  · omega
theorem cut1 (l : List Nat) (e : Nat) : cutD l (some (e : Int)) (some ((e : Int) + 1)) = if h : e < l.length then [l[e]] else [] := by
  unfold L3.cutD
  rw [show ((e : Int) + 1) = ((e + 1 : Nat) : Int) from rfl, HT.sIx_nat, HT.sIx_nat]
  split
  · rename_i h
    rw [Nat.min_eq_left (by omega), Nat.min_eq_left (by omega), List.drop_eq_getElem_cons h, Nat.add_sub_cancel_left]; rfl
  · rename_i h
    rw [Nat.min_eq_right (Nat.le_of_not_lt h), List.drop_of_length_le (Nat.le_refl _)]; simp
theorem cut1_b (l : List Nat) (e : Nat) : (cutD l (some (e : Int)) (some ((e : Int) + 1)) == [32]) = blankAt l e := by
  rw [cut1]
  unfold blankAt
  split
  · rename_i h
    rw [List.getElem?_eq_getElem h, Bool.eq_iff_iff, beq_iff_eq, beq_iff_eq]
    simp
  · rename_i h
    rw [List.getElem?_eq_none (by omega)]; rfl
theorem lineEnd_gt {l : List Nat} {b w : Nat} (hb : b < l.length) (hw : 0 < w) : b < lineEnd l b w ∧ lineEnd l b w ≤ l.length ∧ (lineEnd l b w ≤ b + w) := by
  unfold lineEnd
  split
  · omega
  · split
    · rename_i k hk
      have := List.mem_of_getLast? hk
      rw [List.mem_filter, List.mem_range] at this
      omega
    · omega
theorem line_end_ok (l : List Nat) (b w : Nat) (hb : b ≤ l.length) (hl : l.length ≤ 1000) (hw : w ≤ 1000) : m_line_end [.val (.str (st l)), .val (.int b), .val (.int w)] = .ok (.int (lineEnd l b w)) := by
  refine Ok.eq ?_
  unfold m_line_end b_line_end lineEnd
  simp_arith [st_len, lit_b, show l.length ≤ 1000000 by omega]
  by_cases h : l.length ≤ b + w
  · simp_arith [show ((l.length : Int) - b ≤ w) by omega, h]
  · simp_arith [show ¬ ((l.length : Int) - b ≤ w) by omega, h, show ((b : Int) + 1).natAbs ≤ 1000000 by omega, show ((b : Int) + w + 1).natAbs ≤ 1000000 by omega, range_len, show ((b : Int) + w + 1 - (b + 1)).toNat = w by omega, show w ≤ 1000000 by omega]
    rw [show rangeL ((b : Int) + 1) w = (List.range w).map (fun (k : Nat) => PyData.int ((b : Int) + 1 + (k : Int))) from rfl]
    rw [lcR_filter (fun (k : Nat) => PyData.int ((b : Int) + 1 + (k : Int))) (fun k => blankAt l (b + 1 + k)) (fun (k : Nat) => PyData.int ((b : Int) + 1 + (k : Int))) (List.range w) (fun k hk => by
      rw [List.mem_range] at hk
      refine ⟨_, rfl, ?_, fun _ => rfl⟩
      have e : ((b : Int) + 1 + (k : Int)) = ((b + 1 + k : Nat) : Int) := by omega
      simp_arith [st_len, show l.length ≤ 1000000 by omega, st_tl, e, atI_ok l (b + 1 + k) (by omega), st_one, st_beq]
      unfold blankAt
      rw [List.getElem?_eq_getElem (by omega)]
      rw [R.ok.injEq, Bool.eq_iff_iff, beq_iff_eq, beq_iff_eq]
      simp)]
    walk_at "ev"
    generalize (List.range w).filter (fun k => blankAt l (b + 1 + k)) = fs
    by_cases hf : fs = []
    · subst hf
      simp_arith [List.map_nil, List.isEmpty_nil]
      rfl
    · rw [show (fs.map fun (k : Nat) => PyData.int ((b : Int) + 1 + (k : Int))).isEmpty = false by simpa using hf, atI_last _ (by simpa using hf), List.getLast_map, List.getLast?_eq_some_getLast hf]
      walk_at "ev"
      rw [show ((b + 1 + fs.getLast hf : Nat) : Int) = (b : Int) + 1 + (fs.getLast hf : Int) by omega]
theorem linesF_mono (l : List Nat) (w : Nat) (hw : 0 < w) : ∀ (n m b : Nat), l.length < n + b → l.length < m + b → linesF l w n b = linesF l w m b
  | 0, 0, b, _, _ => rfl
  | 0, m + 1, b, h, _ => by
    show ([] : List (Nat × Nat)) = if b < l.length then _ else _
    rw [if_neg (by omega)]
  | n + 1, 0, b, _, h => by
    show (if b < l.length then _ else _) = []
    rw [if_neg (by omega)]
  | n + 1, m + 1, b, h1, h2 => by
    show (if b < l.length then _ else _) = if b < l.length then _ else _
    split
    · rename_i hb
      have := lineEnd_gt (l := l) (w := w) hb hw
      have h3 : lineEnd l b w ≤ nextB l (lineEnd l b w) := by unfold nextB; split <;> omega
      rw [linesF_mono l w hw n m (nextB l (lineEnd l b w)) (by omega) (by omega)]
    · rfl
theorem nextB_ok {l : List Nat} {e : Nat} (h : e ≤ l.length) : e ≤ nextB l e ∧ nextB l e ≤ l.length ∧ ((e : Int) + if blankAt l e = true then 1 else 0) = (nextB l e : Int) := by
  unfold nextB
  by_cases hb : blankAt l e = true
  · rw [if_pos hb, if_pos hb]
    have : e < l.length := by
      unfold blankAt at hb
      rcases Nat.lt_or_ge e l.length with h1 | h1
      · exact h1
      · rw [List.getElem?_eq_none h1] at hb; cases hb
    exact ⟨by omega, by omega, by omega⟩
  · rw [if_neg hb, if_neg hb]
    exact ⟨by omega, by omega, by omega⟩
theorem lines_ok (l : List Nat) (w : Nat) (hl : l.length ≤ 900) (hw : 0 < w) (hw2 : w ≤ 1000) : m_lines_of [.val (.str (st l)), .val (.int w)] = .ok (.tuple ((linesL l w).map encL)) := by
  refine Ok.eq ?_
  unfold m_lines_of b_lines_of
  walk_at "ev"
  refine while_ok (fun n e => ∃ (b : Nat) (acc : List PyData) (x4 : Sl), b ≤ l.length ∧ n + b = l.length ∧ acc.length ≤ b ∧ acc ++ (linesF l w (n + 1) b).map encL = (linesL l w).map encL ∧ e = [.val (.str (st l)), .val (.int w), .own acc, .val (.int b), x4]) l.length (by omega) ⟨0, [], .emp, Nat.zero_le _, rfl, by simp, rfl, rfl⟩ ?_
  rintro n e ⟨b, acc, x4, hb, hn, ha, hacc, rfl⟩
  refine ⟨decide ((b : Int) < l.length), by simp_arith [st_len, show l.length ≤ 1000000 by omega], fun h => ?_, fun h => ?_⟩
  · rw [decide_eq_false_iff_not] at h
    walk_at "ev"
    rw [← hacc, show linesF l w (n + 1) b = [] from if_neg (by omega)]; simp
  · rw [decide_eq_true_eq] at h
    have hb2 : b < l.length := by omega
    have hg := lineEnd_gt (l := l) (w := w) hb2 hw
    simp_arith [line_end_ok l b w hb (by omega) hw2, show acc.length ≤ 1000000 by omega]
    simp_arith [lit_b, st_len, show l.length ≤ 1000000 by omega, st_cut, st_beq, cut1_b]
    have hlin : linesF l w (n + 1) b = (b, lineEnd l b w) :: linesF l w n (nextB l (lineEnd l b w)) := if_pos hb2
    have hnb : lineEnd l b w ≤ nextB l (lineEnd l b w) ∧ nextB l (lineEnd l b w) ≤ l.length ∧ ((lineEnd l b w : Int) + if blankAt l (lineEnd l b w) = true then 1 else 0) = (nextB l (lineEnd l b w) : Int) := nextB_ok hg.2.1
    rw [hnb.2.2]
    refine ⟨_, l.length - nextB l (lineEnd l b w), rfl, by omega, nextB l (lineEnd l b w), _, _, by omega, by omega, ?_, ?_, rfl⟩
    · rw [List.length_append, List.length_singleton]; omega
    · rw [← hacc, hlin, linesF_mono l w hw (l.length - nextB l (lineEnd l b w) + 1) n _ (by omega) (by omega), List.map_cons, List.append_assoc]; rfl
theorem pw_last : ∀ (l : List Nat) (h : l ≠ []), l.Pairwise (· < ·) → ∀ x ∈ l, x ≤ l.getLast h
  | [a], _, _, x, hx => by rw [List.mem_singleton.mp hx]; exact Nat.le_refl _
  | a :: b :: r, h, p, x, hx => by
    rw [List.getLast_cons (by simp)]
    rw [List.pairwise_cons] at p
    rcases List.mem_cons.mp hx with e | e
    · have := p.1 _ (List.getLast_mem (l := b :: r) (by simp))
      omega
    · exact pw_last (b :: r) (by simp) p.2 x e
theorem maxL_eq {ns : List Int} {e : Int} (h : e ∈ ns) (h2 : ∀ y ∈ ns, y ≤ e) : maxL ns = e := by
  have hs := maxL_spec (ns := ns) (List.ne_nil_of_mem h)
  have := hs.2 e h
  have := h2 _ hs.1
  omega
theorem ints_map {α : Type} (f : α → Int) (xs : List α) : intsOf (xs.map fun x => PyData.int (f x)) = some (xs.map f) := by
  have := intsOf_map (xs.map f)
  rw [List.map_map] at this
  exact this
theorem shp_ints {α : Type} (f : α → Int) (xs : List α) : (xs.map fun x => PyData.int (f x)).all (shp 59) = true := by
  rw [List.all_eq_true]
  intro d hd
  obtain ⟨x, _, rfl⟩ := List.mem_map.mp hd
  rfl
theorem ev_eq_ln (xs : List PyData) (h : xs.all (shp 59) = true) : eqD (.list xs) (.list []) = .ok (.bool xs.isEmpty) := by
  show (if shp 60 (.list xs) = true ∧ shp 60 (.list []) = true then R.ok (PyData.bool _) else .bad) = _
  rw [if_pos ⟨by rw [shp.eq_def]; exact h, rfl⟩]
  cases xs with
  | nil => rfl
  | cons x r => rfl
theorem shp_txt {k : Nat} {l : List Nat} (hs : ∀ c ∈ l, c ≤ 126) : shp k (.str (st l)) = true := by
  have e : shp k (.str (st l)) = PyData.strOk (st l) := by cases k <;> rfl
  rw [e]
  unfold PyData.strOk st
  rw [Array.all_eq_true']
  intro c hc
  have := hs c (by simpa using hc)
  simp; omega
theorem cut1_in (l : List Nat) (e : Nat) (hs : ∀ c ∈ l, c ≤ 126) : inD (.str (st (cutD l (some (e : Int)) (some ((e : Int) + 1))))) (.tuple [.str (st []), .str (st [32])]) = .ok (.bool (blankAt l e || decide (l.length ≤ e))) := by
  have hcut : shp 60 (.str (st (cutD l (some (e : Int)) (some ((e : Int) + 1))))) = true := by
    apply shp_txt
    intro c hc
    refine hs c ?_
    unfold L3.cutD at hc
    exact List.mem_of_mem_drop (List.mem_of_mem_take hc)
  show (if shp 60 (.str (st (cutD l (some (e : Int)) (some ((e : Int) + 1))))) = true ∧ ([PyData.str (st []), .str (st [32])].all (shp 59)) = true then R.ok (PyData.bool _) else .bad) = _
  rw [if_pos ⟨hcut, by simp only [List.all_cons, List.all_nil, shp_txt (k := 59) (l := []) (by simp), shp_txt (k := 59) (l := [32]) (by simp), Bool.and_true]⟩]
  simp only [List.any_cons, List.any_nil, PyData.eqv, st_beq, Bool.or_false]
  rw [show ([32] == cutD l (some (e : Int)) (some ((e : Int) + 1))) = blankAt l e by rw [← cut1_b, Bool.eq_iff_iff, beq_iff_eq, beq_iff_eq, eq_comm], cut1, Bool.or_comm]
  congr 3
  split
  · rename_i h
    rw [decide_eq_false (by omega)]; rfl
  · rename_i h
    rw [decide_eq_true (by omega)]; rfl
theorem in_eb (l : List Nat) (hs : ∀ c ∈ l, c ≤ 126) : inD (.str (st l)) (.tuple [.str (st [32]), .str (st [])]) = .ok (.bool (l == [32] || l == [])) := by
  show (if shp 60 (.str (st l)) = true ∧ ([PyData.str (st [32]), .str (st [])].all (shp 59)) = true then R.ok (PyData.bool _) else .bad) = _
  rw [if_pos ⟨shp_txt hs, by simp only [List.all_cons, List.all_nil, shp_txt (k := 59) (l := []) (by simp), shp_txt (k := 59) (l := [32]) (by simp), Bool.and_true]⟩]
  simp only [List.any_cons, List.any_nil, PyData.eqv, st_beq, Bool.or_false]
  rw [show ([32] == l) = (l == [32]) by rw [Bool.eq_iff_iff, beq_iff_eq, beq_iff_eq, eq_comm], show ([] == l) = (l == []) by rw [Bool.eq_iff_iff, beq_iff_eq, beq_iff_eq, eq_comm]]
theorem cut1_in2 : True := trivial
theorem ends_max (l : List Nat) (b w : Nat) (hb : b < l.length) (hw : 0 < w) : let fs := (List.range (min w (l.length - b))).filter (fun k => blankAt l (b + 1 + k) || decide (l.length ≤ b + 1 + k))
    if fs = [] then b + min w (l.length - b) = lineEnd l b w else maxL (fs.map fun (k : Nat) => ((b : Int) + 1 + (k : Int))) = lineEnd l b w := by
  intro fs
  by_cases h : l.length ≤ b + w
  · have hin : l.length - b - 1 ∈ fs := List.mem_filter.mpr ⟨List.mem_range.mpr (by omega), by rw [decide_eq_true (show l.length ≤ b + 1 + (l.length - b - 1) by omega)]; simp⟩
    rw [if_neg (List.ne_nil_of_mem hin)]
    have e : lineEnd l b w = l.length := by unfold lineEnd; rw [if_pos h]
    rw [e]
    refine maxL_eq (List.mem_map.mpr ⟨_, hin, by omega⟩) fun y hy => ?_
    obtain ⟨k, hk, rfl⟩ := List.mem_map.mp hy
    have := List.mem_range.mp (List.mem_filter.mp hk).1
    omega
  · have hfs : fs = (List.range w).filter fun k => blankAt l (b + 1 + k) := by
      show List.filter _ _ = _
      rw [Nat.min_eq_left (by omega)]
      apply List.filter_congr
      intro k hk
      have := List.mem_range.mp hk
      rw [decide_eq_false (by omega), Bool.or_false]
    have e : lineEnd l b w = match fs.getLast? with | some k => b + 1 + k | none => b + w := by unfold lineEnd; rw [if_neg h, ← hfs]
    have hp : fs.Pairwise (· < ·) := by
      rw [hfs]
      exact List.Pairwise.sublist List.filter_sublist List.pairwise_lt_range
    rw [e, Nat.min_eq_left (by omega)]
    split
    · rename_i hn
      rw [hn]; rfl
    · rename_i hn
      rw [List.getLast?_eq_some_getLast hn]
      refine maxL_eq (List.mem_map.mpr ⟨_, List.getLast_mem hn, by simp⟩) fun y hy => ?_
      obtain ⟨k, hk, rfl⟩ := List.mem_map.mp hy
      have := pw_last fs hn hp k hk
      show _ ≤ (((b + 1 + fs.getLast hn : Nat)) : Int)
      omega
theorem law_lines_ok (l : List Nat) (w : Nat) (hl : l.length ≤ 900) (hw : 0 < w) (hw2 : w ≤ 1000) (hs : ∀ c ∈ l, c ≤ 126) : m_law_lines [.val (.str (st l)), .val (.int w)] = .ok (.list ((linesL l w).map encL)) := by
  refine Ok.eq ?_
  unfold m_law_lines b_law_lines
  walk_at "ev"
  refine while_ok (fun n e => ∃ (b : Nat) (acc : List PyData) (x4 x5 : Sl), b ≤ l.length ∧ n + b = l.length ∧ acc.length ≤ b ∧ acc ++ (linesF l w (n + 1) b).map encL = (linesL l w).map encL ∧ e = [.val (.str (st l)), .val (.int w), .own acc, .val (.int b), x4, x5]) l.length (by omega) ⟨0, [], .emp, .emp, Nat.zero_le _, rfl, by simp, rfl, rfl⟩ ?_
  rintro n e ⟨b, acc, x4, x5, hb, hn, ha, hacc, rfl⟩
  refine ⟨decide ((b : Int) < l.length), by simp_arith [st_len, show l.length ≤ 1000000 by omega], fun h => ?_, fun h => ?_⟩
  · rw [decide_eq_false_iff_not] at h
    walk_at "ev"
    rw [← hacc, show linesF l w (n + 1) b = [] from if_neg (by omega)]; simp
  · rw [decide_eq_true_eq] at h
    have hb2 : b < l.length := by omega
    have hg := lineEnd_gt (l := l) (w := w) hb2 hw
    have hmin : (if (l.length : Int) < (b : Int) + w then (l.length : Int) else (b : Int) + w) = ((b + min w (l.length - b) : Nat) : Int) := by split <;> omega
    have hk : ((b + min w (l.length - b) : Nat) + 1 - ((b : Int) + 1)).toNat = min w (l.length - b) := by omega
    simp_arith [st_len, show l.length ≤ 1000000 by omega, hmin, show ((b : Int) + 1).natAbs ≤ 1000000 by omega, show (((b + min w (l.length - b) : Nat) : Int) + 1).natAbs ≤ 1000000 by omega, range_len, hk, show min w (l.length - b) ≤ 1000000 by omega]
    rw [show rangeL ((b : Int) + 1) (min w (l.length - b)) = (List.range (min w (l.length - b))).map (fun (k : Nat) => PyData.int ((b : Int) + 1 + (k : Int))) from rfl]
    rw [lcR_filter (fun (k : Nat) => PyData.int ((b : Int) + 1 + (k : Int))) (fun k => blankAt l (b + 1 + k) || decide (l.length ≤ b + 1 + k)) (fun (k : Nat) => PyData.int ((b : Int) + 1 + (k : Int))) _ (fun k hk => by
      rw [List.mem_range] at hk
      refine ⟨_, rfl, ?_, fun _ => rfl⟩
      have e : ((b : Int) + 1 + (k : Int)) = ((b + 1 + k : Nat) : Int) := by omega
      simp_arith [st_len, show l.length ≤ 1000000 by omega, st_tl, e, lit_e, lit_b, st_cut, cut1_in l (b + 1 + k) hs])]
    have hlin : linesF l w (n + 1) b = (b, lineEnd l b w) :: linesF l w n (nextB l (lineEnd l b w)) := if_pos hb2
    have hends := ends_max l b w hb2 hw
    have hfl : ((List.range (min w (l.length - b))).filter (fun k => blankAt l (b + 1 + k) || decide (l.length ≤ b + 1 + k))).length ≤ min w (l.length - b) := by
      have := List.length_filter_le (fun k => blankAt l (b + 1 + k) || decide (l.length ≤ b + 1 + k)) (List.range (min w (l.length - b)))
      rw [List.length_range] at this
      exact this
    generalize (List.range (min w (l.length - b))).filter (fun k => blankAt l (b + 1 + k) || decide (l.length ≤ b + 1 + k)) = fs at hends hfl ⊢
    have hm : Ok (eqD (PyData.list (fs.map fun (k : Nat) => PyData.int ((b : Int) + 1 + (k : Int)))) (PyData.list [])) fun a_1 =>
      Ok (L3.intD a_1) fun a_2 =>
        Ok (mulD (PyData.list [PyData.int ((b + min w (l.length - b) : Nat) : Int)]) a_2) fun a_3 =>
          Ok (addD (PyData.list (fs.map fun (k : Nat) => PyData.int ((b : Int) + 1 + (k : Int)))) a_3) fun a_4 =>
            Ok (maxD1 a_4) fun a_5 => a_5 = .int (lineEnd l b w) := by
      rw [ev_eq_ln _ (shp_ints (fun (k : Nat) => ((b : Int) + 1 + (k : Int))) fs)]
      by_cases hf : fs = []
      · subst hf
        rw [if_pos rfl] at hends
        simp_arith [List.map_nil, List.isEmpty_nil]
        rw [hends]
        exact ⟨_, rfl, _, rfl, rfl⟩
      · rw [if_neg hf] at hends
        rw [show (fs.map fun (k : Nat) => PyData.int ((b : Int) + 1 + (k : Int))).isEmpty = false by simpa using hf]
        have hlen : fs.length ≤ 1000000 := by omega
        simp_arith [Int.reduceToNat, hlen, ints_map (fun (k : Nat) => ((b : Int) + 1 + (k : Int))) fs, show (fs.map fun (k : Nat) => ((b : Int) + 1 + (k : Int))).isEmpty = false by simpa using hf]
        rw [hends]
    obtain ⟨a1, h1, a2, h2, a3, h3, a4, h4, a5, h5, rfl⟩ := hm
    rw [Ok_ok]
    simp_arith [h1, h2, h3, h4, h5, show acc.length ≤ 1000000 by omega, lit_b, st_len, show l.length ≤ 1000000 by omega, st_cut, st_beq, cut1_b]
    have hnb : lineEnd l b w ≤ nextB l (lineEnd l b w) ∧ nextB l (lineEnd l b w) ≤ l.length ∧ ((lineEnd l b w : Int) + if blankAt l (lineEnd l b w) = true then 1 else 0) = (nextB l (lineEnd l b w) : Int) := nextB_ok hg.2.1
    have key : acc ++ [PyData.tuple [PyData.int ↑b, PyData.int ↑(lineEnd l b w)]] ++ (linesF l w (l.length - nextB l (lineEnd l b w) + 1) (nextB l (lineEnd l b w))).map encL = (linesL l w).map encL := by
      rw [← hacc, hlin, linesF_mono l w hw (l.length - nextB l (lineEnd l b w) + 1) n _ (by omega) (by omega), List.map_cons, List.append_assoc]; rfl
    have hlen : (acc ++ [PyData.tuple [PyData.int ↑b, PyData.int ↑(lineEnd l b w)]]).length = acc.length + 1 := by simp
    by_cases hbl : blankAt l (lineEnd l b w) = true
    · rw [if_pos hbl] at hnb ⊢
      rw [hnb.2.2]
      exact ⟨_, rfl, _, l.length - nextB l (lineEnd l b w), rfl, by omega, nextB l (lineEnd l b w), _, _, _, by omega, by omega, by omega, key, rfl⟩
    · rw [if_neg hbl] at hnb ⊢
      have hq : nextB l (lineEnd l b w) = lineEnd l b w := by omega
      rw [hq] at key
      exact ⟨_, rfl, _, l.length - lineEnd l b w, rfl, by omega, lineEnd l b w, _, _, _, by omega, by omega, by omega, key, rfl⟩
theorem linesF_len (l : List Nat) (w : Nat) : ∀ n b, (linesF l w n b).length ≤ n
  | 0, b => Nat.le_refl _
  | n + 1, b => by
    show (if b < l.length then (b, lineEnd l b w) :: linesF l w n (nextB l (lineEnd l b w)) else []).length ≤ _
    split
    · have := linesF_len l w n (nextB l (lineEnd l b w))
      rw [List.length_cons]; omega
    · simp
theorem linesL_len (l : List Nat) (w : Nat) : (linesL l w).length ≤ l.length + 1 := linesF_len l w _ _
theorem line_at_ok (l : List Nat) (w s : Nat) (hl : l.length ≤ 900) (hw : 0 < w) (hw2 : w ≤ 1000) : m_line_at [.val (.str (st l)), .val (.int w), .val (.int s)] = .ok (.int ((((linesL l w).filter fun p => decide (p.1 ≤ s)).length : Int) - 1)) := by
  refine Ok.eq ?_
  unfold m_line_at b_line_at
  simp_arith [lines_ok l w hl hw hw2, show (linesL l w).length ≤ 1000000 by have := linesL_len l w; omega]
  rw [lcR_filter encL (fun p => decide (p.1 ≤ s)) (fun p => PyData.int p.1) _ (fun p hp => by
    refine ⟨_, rfl, ?_, fun _ => rfl⟩
    walk_at "ev"
    simp only [Int.ofNat_le])]
  walk_at "ev"
/-! ### two that are the same -/
def plD : Nat → PyData → Bool
  | _, .none => true
  | _, .bool _ => true
  | _, .int _ => true
  | _, .str x => true
  | k + 1, .tuple xs => decide (xs.length ≤ 1000000) && xs.all (plD k)
  | _, _ => false
theorem zip_self (xs : List PyData) : zipL xs xs = xs.map fun x => .tuple [x, x] := by
  induction xs with
  | nil => rfl
  | cons x r ih => show _ :: zipL r r = _; rw [ih]; rfl
theorem bools_map {α : Type} (f : α → Bool) (xs : List α) : boolsOf (xs.map fun x => PyData.bool (f x)) = some (xs.map f) := by
  induction xs with
  | nil => rfl
  | cons x r ih =>
    show (boolsOf (r.map fun x => PyData.bool (f x))).map (f x :: ·) = _
    rw [ih]; rfl
theorem same_refl : ∀ (k : Nat) (d : PyData), plD k d = true → m_law_same (k + 1) [.val d, .val d] = .ok (.bool true)
  | k, .none, _ => by
    refine Ok.eq ?_
    show Ok (den 4 (b_law_same (m_law_same k)) _) _
    unfold b_law_same
    walk_at "ev"
  | k, .bool b, _ => by
    refine Ok.eq ?_
    show Ok (den 4 (b_law_same (m_law_same k)) _) _
    unfold b_law_same
    simp_arith [show eqD (.bool b) (.bool b) = .ok (.bool true) by cases b <;> rfl]
  | k, .int i, _ => by
    refine Ok.eq ?_
    show Ok (den 4 (b_law_same (m_law_same k)) _) _
    unfold b_law_same
    simp_arith [beq_self_eq_true]
  | k, .str x, _ => by
    refine Ok.eq ?_
    show Ok (den 4 (b_law_same (m_law_same k)) _) _
    unfold b_law_same
    simp_arith [beq_self_eq_true]
  | k + 1, .tuple xs, h => by
    refine Ok.eq ?_
    show Ok (den 4 (b_law_same (m_law_same (k + 1))) _) _
    unfold b_law_same
    have h' : decide (xs.length ≤ 1000000) = true ∧ xs.all (plD k) = true := by
      have : (decide (xs.length ≤ 1000000) && xs.all (plD k)) = true := h
      rwa [Bool.and_eq_true] at this
    have h1 : xs.length ≤ 1000000 := of_decide_eq_true h'.1
    simp_arith [beq_self_eq_true, zip_self, h1]
    rw [lcR_map (fun x => PyData.tuple [x, x]) (fun _ => PyData.bool true) xs (fun x hx => by
      refine ⟨_, rfl, rfl, ?_⟩
      have := same_refl k x (List.all_eq_true.mp h'.2 x hx)
      simp_arith [this])]
    simp_arith [bools_map (fun _ => true) xs]
    congr 1
    rw [List.all_eq_true]
    intro b hb
    obtain ⟨_, _, rfl⟩ := List.mem_map.mp hb
    rfl
  | 0, .tuple xs, h => by cases h
  | 0, .list xs, h => by cases h
  | k + 1, .list xs, h => by cases h
  | 0, .dict xs, h => by cases h
  | k + 1, .dict xs, h => by cases h
theorem plD_lines (k : Nat) (ls : List (Nat × Nat)) (h : ls.length ≤ 1000000) : plD (k + 2) (.tuple (ls.map encL)) = true := by
  show (decide ((ls.map encL).length ≤ 1000000) && (ls.map encL).all (plD (k + 1))) = true
  rw [Bool.and_eq_true, List.length_map, decide_eq_true_eq, List.all_eq_true]
  refine ⟨h, fun d hd => ?_⟩
  obtain ⟨p, _, rfl⟩ := List.mem_map.mp hd
  cases k <;> rfl
/-! ### equal data -/
mutual
theorem eqv_refl : ∀ (k : Nat) (d : PyData), shp k d = true → PyData.eqv d d = true
  | _, .none, _ => rfl
  | _, .bool b, _ => by simp only [PyData.eqv, beq_self_eq_true]
  | _, .int b, _ => by simp only [PyData.eqv, beq_self_eq_true]
  | _, .str b, _ => by simp only [PyData.eqv, beq_self_eq_true]
  | 0, .list xs, h => by cases h
  | 0, .tuple xs, h => by cases h
  | k + 1, .list xs, h => by simp only [PyData.eqv]; exact eqvs_refl k xs h
  | k + 1, .tuple xs, h => by simp only [PyData.eqv]; exact eqvs_refl k xs h
  | 0, .dict xs, h => by cases h
  | k + 1, .dict xs, h => by cases h
theorem eqvs_refl : ∀ (k : Nat) (xs : List PyData), xs.all (shp k) = true → PyData.eqvAll xs xs = true
  | k, [], _ => rfl
  | k, x :: r, h => by
    rw [List.all_cons, Bool.and_eq_true] at h
    simp only [PyData.eqvAll, eqv_refl k x h.1, eqvs_refl k r h.2, Bool.and_true]
end
theorem eqD_self : ∀ {d : PyData}, shp 60 d = true → eqD d d = .ok (.bool true)
  | .none, _ => rfl
  | .bool b, _ => by cases b <;> rfl
  | .int i, h => by rw [ev_eq_ii, beq_self_eq_true]
  | .str x, _ => by rw [ev_eq_ss, beq_self_eq_true]
  | .list xs, h => by show (if shp 60 (.list xs) = true ∧ shp 60 (.list xs) = true then R.ok (PyData.bool _) else .bad) = _; rw [if_pos ⟨h, h⟩, eqv_refl 60 _ h]
  | .tuple xs, h => by show (if shp 60 (.tuple xs) = true ∧ shp 60 (.tuple xs) = true then R.ok (PyData.bool _) else .bad) = _; rw [if_pos ⟨h, h⟩, eqv_refl 60 _ h]
  | .dict _, h => by cases h
theorem neD_self : ∀ {d : PyData}, shp 60 d = true → neD d d = .ok (.bool false)
  | .none, _ => rfl
  | .bool b, _ => by cases b <;> rfl
  | .int i, h => by rw [ev_ne_ii, beq_self_eq_true]; rfl
  | .str x, _ => by rw [ev_ne_ss, beq_self_eq_true]; rfl
  | .list xs, h => by show (if shp 60 (.list xs) = true ∧ shp 60 (.list xs) = true then R.ok (PyData.bool (!_)) else .bad) = _; rw [if_pos ⟨h, h⟩, eqv_refl 60 _ h]; rfl
  | .tuple xs, h => by show (if shp 60 (.tuple xs) = true ∧ shp 60 (.tuple xs) = true then R.ok (PyData.bool (!_)) else .bad) = _; rw [if_pos ⟨h, h⟩, eqv_refl 60 _ h]; rfl
  | .dict _, h => by cases h
end LB

namespace LB
open PySem PySem.Spec PyProof.Rows L2 L3
local macro_rules | `(tactic| walk_at "ev") => `(tactic| simp only [ev_dVar, ev_dOwn, ev_dC, ev_d2, ev_d1, ev_dTest, ev_dChain, ev_dChain3, ev_dTr, ev_dNot, ev_dAnd, ev_dOr, ev_dAndV, ev_dOrV, ev_dNotV, ev_dIf, ev_oNone, ev_oSome, ev_dSlice, ev_dSlice3, ev_lNil, ev_lCons, ev_dTup, ev_dLst, ev_aNil, ev_aCons, ev_aScr, ev_dCall, ev_dScrLen, ev_dScrIx, ev_dSm1, ev_iItems1, ev_iRange1, ev_iRange2, ev_iRange3, ev_dPgLen, ev_sPgApp, ev_sPgPush, ev_sPgNil, ev_sPgNew, ev_sFreezeP, ev_sCallB, ev_dOrX, ev_dDctIx, ev_dDctGet, ev_dDctNin, ev_dDctKeys, ev_sDctNew, ev_sDctSet, ev_sDctOf, ev_iEnumD, ev_iZipD, ev_tTrue, ev_dLcx, ev_sNil, ev_sSeq, ev_sFreeze, ev_sAsg, ev_sPar, ev_sOwnL, ev_sAppend, ev_sExtend, ev_sRet, ev_sRetOwn, ev_sRetN, ev_sIf, ev_sDrop, ev_sWhile, ev_sFor, ev_sRaise, ev_dLm1, ev_dIsE, ev_dIsVE, ev_dNoneX, ev_aExc, ev_sMovE, ev_sTry, ev_gN_, ev_gTt, ev_gsC_, ev_gsN_, ev_seq_nx, ev_seq_rt, ev_seq_bk, ev_seq_ct, ev_lo_nx, ev_lo_rt, ev_lo_bk, ev_lo_ct, ev_out_nx, ev_out_rt, ev_den_, ev_guard_, ev_asBool_, ev_asInt_, ev_asStr_, ev_tr_none, ev_tr_bool, ev_tr_int, ev_tr_str, ev_tr_list, ev_tr_tuple, ev_add_ii, ev_add_ss, ev_add_tt, ev_add_ll, ev_sub_ii, ev_mul_ii, ev_mul_si, ev_mul_li, ev_mul_ti, ev_mod_ii, ev_div_ii, ev_neg_i, ev_eq_ss, ev_eq_ii, ev_ne_ss, ev_ne_ii, ev_lt_ii, ev_lt_ss, ev_le_ii, ev_le_ss, ev_ge_ii, ev_gt_ii, ev_is_bb, ev_isn_, ev_in_ss, ev_notIn_, ev_ix_l, ev_ix_t, ev_ix_s, ev_sl_l, ev_sl_t, ev_sl_s, ev_slS_l, ev_mkTup_, ev_mkLst_, ev_len_s, ev_len_l, ev_len_t, ev_int_i, ev_int_b, ev_tup_l, ev_tup_t, ev_lst_l, ev_lst_t, ev_sum_l, ev_all_l, ev_max1_l, ev_max2_, ev_min2_, ev_asList_, ev_clr_nx, ev_clr_rt, ev_tr_nx, ev_tr_rt, ev_seq_rb, ev_seq_ex, ev_lo_rb, ev_lo_ex, ev_outB_nx, ev_outB_rb, ev_outB_ex, ev_nxB_, ev_pgsOf_b, ev_bigOf_b, ev_bigOf_s, ev_putB_, ev_lastD_, ev_dctOf_b, ev_frP_, ev_countD_, ev_indexD_, ev_isTD_, ev_isTD2_, ev_items_l, ev_items_t, ev_items_s, ev_itS_l, ev_itS_t, ev_strip_, ev_join_, ev_split_, ev_starts_, ev_ends_, ev_opt_some, ev_opt_none, ev_noexc_ok, ev_lc_nil, ev_lc_cons, ev_for_nil, ev_wipe_nil, ev_wipe_cons, ev_fr_, ev_scr_, ev_isT_tuple_n, ev_isT_tuple_b, ev_isT_tuple_i, ev_isT_tuple_s, ev_isT_tuple_t, ev_isT_tuple_l, ev_isT_bool_n, ev_isT_bool_b, ev_isT_bool_i, ev_isT_bool_s, ev_isT_bool_t, ev_isT_bool_l, ev_isT_int_n, ev_isT_int_b, ev_isT_int_i, ev_isT_int_s, ev_isT_int_t, ev_isT_int_l, ev_isT_str_n, ev_isT_str_b, ev_isT_str_i, ev_isT_str_s, ev_isT_str_t, ev_isT_str_l, ev_isT_list_n, ev_isT_list_b, ev_isT_list_i, ev_isT_list_s, ev_isT_list_t, ev_isT_list_l, ev_is_nn, ev_is_bn, ev_is_in, ev_is_sn, ev_is_tn, ev_is_ln, BIG_eq, Ok_bind, Ok_ok, Ok_noexc, at_0, at_1, at_2, at_3, at_4, R.ok_bind, R.exc_bind, R.bad_bind, sget_cons_zero, sget_cons_succ, List.set_cons_zero, List.set_cons_succ, List.cons_append, List.nil_append, List.append_nil, List.length_cons, List.length_nil, List.replicate_succ, List.replicate_zero, ite_true, ite_false, Bool.not_true, Bool.not_false, Bool.false_eq_true, decide_eq_true_eq, Nat.zero_add, ↓reduceIte, Nat.reduceAdd, Int.reduceLT, Int.reduceLE, Int.reduceAdd, Int.reduceSub, Int.reduceMul, Int.reduceNeg, LIM_eq, Int.reduceAbs, Nat.reduceLT, true_or, or_true, true_and, and_true, Int.natAbs_natCast, Int.toNat_natCast, Nat.mul_zero, Nat.add_zero, Int.reduceToNat, List.flatten_nil, List.flatten_cons, List.length_append, List.length_map, Int.zero_add, ne_eq, not_false_eq_true, not_true_eq_false,  Nat.reduceSub, Nat.reduceLeDiff, Nat.reduceEqDiff, decide_true, decide_false, Bool.and_true, Bool.true_and, Bool.and_false, Bool.false_and, Bool.or_true, Bool.true_or, Bool.or_false, Bool.false_or])
local macro_rules | `(tactic| simp_arith [$xs,*]) => `(tactic| simp only [ev_dVar, ev_dOwn, ev_dC, ev_d2, ev_d1, ev_dTest, ev_dChain, ev_dChain3, ev_dTr, ev_dNot, ev_dAnd, ev_dOr, ev_dAndV, ev_dOrV, ev_dNotV, ev_dIf, ev_oNone, ev_oSome, ev_dSlice, ev_dSlice3, ev_lNil, ev_lCons, ev_dTup, ev_dLst, ev_aNil, ev_aCons, ev_aScr, ev_dCall, ev_dScrLen, ev_dScrIx, ev_dSm1, ev_iItems1, ev_iRange1, ev_iRange2, ev_iRange3, ev_dPgLen, ev_sPgApp, ev_sPgPush, ev_sPgNil, ev_sPgNew, ev_sFreezeP, ev_sCallB, ev_dOrX, ev_dDctIx, ev_dDctGet, ev_dDctNin, ev_dDctKeys, ev_sDctNew, ev_sDctSet, ev_sDctOf, ev_iEnumD, ev_iZipD, ev_tTrue, ev_dLcx, ev_sNil, ev_sSeq, ev_sFreeze, ev_sAsg, ev_sPar, ev_sOwnL, ev_sAppend, ev_sExtend, ev_sRet, ev_sRetOwn, ev_sRetN, ev_sIf, ev_sDrop, ev_sWhile, ev_sFor, ev_sRaise, ev_dLm1, ev_dIsE, ev_dIsVE, ev_dNoneX, ev_aExc, ev_sMovE, ev_sTry, ev_gN_, ev_gTt, ev_gsC_, ev_gsN_, ev_seq_nx, ev_seq_rt, ev_seq_bk, ev_seq_ct, ev_lo_nx, ev_lo_rt, ev_lo_bk, ev_lo_ct, ev_out_nx, ev_out_rt, ev_den_, ev_guard_, ev_asBool_, ev_asInt_, ev_asStr_, ev_tr_none, ev_tr_bool, ev_tr_int, ev_tr_str, ev_tr_list, ev_tr_tuple, ev_add_ii, ev_add_ss, ev_add_tt, ev_add_ll, ev_sub_ii, ev_mul_ii, ev_mul_si, ev_mul_li, ev_mul_ti, ev_mod_ii, ev_div_ii, ev_neg_i, ev_eq_ss, ev_eq_ii, ev_ne_ss, ev_ne_ii, ev_lt_ii, ev_lt_ss, ev_le_ii, ev_le_ss, ev_ge_ii, ev_gt_ii, ev_is_bb, ev_isn_, ev_in_ss, ev_notIn_, ev_ix_l, ev_ix_t, ev_ix_s, ev_sl_l, ev_sl_t, ev_sl_s, ev_slS_l, ev_mkTup_, ev_mkLst_, ev_len_s, ev_len_l, ev_len_t, ev_int_i, ev_int_b, ev_tup_l, ev_tup_t, ev_lst_l, ev_lst_t, ev_sum_l, ev_all_l, ev_max1_l, ev_max2_, ev_min2_, ev_asList_, ev_clr_nx, ev_clr_rt, ev_tr_nx, ev_tr_rt, ev_seq_rb, ev_seq_ex, ev_lo_rb, ev_lo_ex, ev_outB_nx, ev_outB_rb, ev_outB_ex, ev_nxB_, ev_pgsOf_b, ev_bigOf_b, ev_bigOf_s, ev_putB_, ev_lastD_, ev_dctOf_b, ev_frP_, ev_countD_, ev_indexD_, ev_isTD_, ev_isTD2_, ev_items_l, ev_items_t, ev_items_s, ev_itS_l, ev_itS_t, ev_strip_, ev_join_, ev_split_, ev_starts_, ev_ends_, ev_opt_some, ev_opt_none, ev_noexc_ok, ev_lc_nil, ev_lc_cons, ev_for_nil, ev_wipe_nil, ev_wipe_cons, ev_fr_, ev_scr_, ev_isT_tuple_n, ev_isT_tuple_b, ev_isT_tuple_i, ev_isT_tuple_s, ev_isT_tuple_t, ev_isT_tuple_l, ev_isT_bool_n, ev_isT_bool_b, ev_isT_bool_i, ev_isT_bool_s, ev_isT_bool_t, ev_isT_bool_l, ev_isT_int_n, ev_isT_int_b, ev_isT_int_i, ev_isT_int_s, ev_isT_int_t, ev_isT_int_l, ev_isT_str_n, ev_isT_str_b, ev_isT_str_i, ev_isT_str_s, ev_isT_str_t, ev_isT_str_l, ev_isT_list_n, ev_isT_list_b, ev_isT_list_i, ev_isT_list_s, ev_isT_list_t, ev_isT_list_l, ev_is_nn, ev_is_bn, ev_is_in, ev_is_sn, ev_is_tn, ev_is_ln, BIG_eq, Ok_bind, Ok_ok, Ok_noexc, at_0, at_1, at_2, at_3, at_4, R.ok_bind, R.exc_bind, R.bad_bind, sget_cons_zero, sget_cons_succ, List.set_cons_zero, List.set_cons_succ, List.cons_append, List.nil_append, List.append_nil, List.length_cons, List.length_nil, List.replicate_succ, List.replicate_zero, ite_true, ite_false, Bool.not_true, Bool.not_false, Bool.false_eq_true, decide_eq_true_eq, Nat.zero_add, ↓reduceIte, Nat.reduceAdd, Int.reduceLT, Int.reduceLE, Int.reduceAdd, Int.reduceSub, Int.reduceMul, Int.reduceNeg, LIM_eq, Int.reduceAbs, Nat.reduceLT, true_or, or_true, true_and, and_true, Int.natAbs_natCast, Int.toNat_natCast, Nat.mul_zero, Nat.add_zero, Int.reduceToNat, List.flatten_nil, List.flatten_cons, List.length_append, List.length_map, Int.zero_add, ne_eq, not_false_eq_true, not_true_eq_false,  Nat.reduceSub, Nat.reduceLeDiff, Nat.reduceEqDiff, decide_true, decide_false, Bool.and_true, Bool.true_and, Bool.and_false, Bool.false_and, Bool.or_true, Bool.true_or, Bool.or_false, Bool.false_or, $xs,*])
/-! ### books -/
abbrev Chp : Type := List Nat × List (List Nat)
abbrev Bk : Type := List Chp
def encT (t : List Nat) : PyData := .str (st t)
def encC (c : Chp) : PyData := .tuple [.str (st c.1), .tuple (c.2.map encT)]
def encB (b : Bk) : PyData := .tuple (b.map encC)
structure GC (c : Chp) : Prop where
  title : GT c.1
  one : 1 ≤ c.2.length
  most : c.2.length ≤ 4
  pars : ∀ t ∈ c.2, GT t
structure GB (b : Bk) : Prop where
  one : 1 ≤ b.length
  most : b.length ≤ 3
  chaps : ∀ c ∈ b, GC c
def cp (b : Bk) (i : Nat) : Chp := b.getD i ([], [])
def par (b : Bk) (i k : Nat) : List Nat := (cp b i).2.getD k []
theorem getD_lt {α : Type} {l : List α} {i : Nat} (d : α) (h : i < l.length) : l.getD i d = l[i] := by rw [List.getD, List.getElem?_eq_getElem h]; rfl
theorem cp_eq {b : Bk} {i : Nat} (h : i < b.length) : b[i] = cp b i := by unfold cp; rw [getD_lt _ h]
theorem par_eq {b : Bk} {i k : Nat} (h : k < (cp b i).2.length) : (cp b i).2[k] = par b i k := by unfold par; rw [getD_lt _ h]
theorem GB.chap {b : Bk} (g : GB b) {i : Nat} (h : i < b.length) : GC (cp b i) := by rw [← cp_eq h]; exact g.chaps _ (List.getElem_mem h)
theorem GB.par {b : Bk} (g : GB b) {i k : Nat} (h : i < b.length) (hk : k < (cp b i).2.length) : GT (LB.par b i k) := by rw [← par_eq hk]; exact (g.chap h).pars _ (List.getElem_mem hk)
theorem GT.head {l : List Nat} (g : GT l) (m : Nat) (h1 : 1 ≤ m) (h2 : m ≤ 60) : GT (trim (l.take m)) := GT.cut g.fst g.one g.sign g.dbl m h1 h2
theorem cut_head (l : List Nat) (m : Nat) : cutD l none (some (m : Int)) = l.take m := by
  unfold L3.cutD
  rw [HT.sIx_nat, HT.sIx_none, Nat.sub_zero, List.drop_zero]
  rcases Nat.le_total m l.length with h | h
  · rw [Nat.min_eq_left h]
  · rw [Nat.min_eq_right h, List.take_of_length_le (Nat.le_refl _), List.take_of_length_le h]
theorem law_book_ok (c : Int) : Ok (m_law_book [.val (.int c)]) fun d => ∃ b, GB b ∧ d = encB b := by
  unfold m_law_book b_law_book
  have t1 := mixZ_nn c 9923 (m := 3) (by decide)
  have t2 := mixZ_lt c 9923 (m := 3) (by decide)
  simp_arith [mix_ok]
  generalize mixZ c 9923 3 = t at t1 t2 ⊢
  simp_arith [show (1 + t).natAbs ≤ 1000000 by omega]
  refine for_ok (fun i e => ∃ (b : Bk) (x2 x3 x4 x5 : Sl), b.length = i ∧ (∀ c ∈ b, GC c) ∧ e = [.val (.int c), .own (b.map encC), x2, x3, x4, x5]) ⟨[], _, _, _, _, rfl, by simp, rfl⟩ (fun i hi e he => ?_) fun e he => ?_
  · obtain ⟨b, x2, x3, x4, x5, hb, hg, rfl⟩ := he
    rw [range_len] at hi
    rw [range_get]
    have u1 := mixZ_nn (c + 31 * (i : Int)) 9907 (m := 4) (by decide)
    have u2 := mixZ_lt (c + 31 * (i : Int)) 9907 (m := 4) (by decide)
    simp_arith [mix_ok]
    generalize mixZ (c + 31 * (i : Int)) 9907 4 = u at u1 u2 ⊢
    simp_arith [show (1 + u).natAbs ≤ 1000000 by omega, range_len, show (1 + u).toNat ≤ 1000000 by omega]
    refine Ok.mono (lcR_all (P := fun d => ∃ t, GT t ∧ d = encT t) _ fun x hx => ?_) fun ds ⟨d1, d2⟩ => ?_
    · obtain ⟨k, k1, rfl⟩ := range_ok _ _ x hx
      walk_at "ev"
      exact law_text_ok _
    · rw [range_len] at d1
      obtain ⟨ts, rfl, ht⟩ := all_map ds d2
      rw [List.length_map] at d1
      obtain ⟨_, hl, l, gl, rfl⟩ := law_text_ok (c + 31 * (i : Int) + 5)
      have gl12 : (l.take 12).length ≤ 12 := by rw [List.length_take]; omega
      have gl60 := gl.most
      simp_arith [hl, st_len, show l.length ≤ 1000000 by omega, st_cut, lit_b, show (12 : Int) = ((12 : Nat) : Int) from rfl, cut_head, show (l.take 12).length ≤ 1000000 by omega, st_strip, show b.length ≤ 1000000 by omega]
      refine ⟨_, .inl rfl, b ++ [(trim (l.take 12), ts)], _, _, _, _, by simp; omega, fun c hc => ?_, by rw [List.map_append]; rfl⟩
      rcases List.mem_append.mp hc with h | h
      · exact hg c h
      · rw [List.mem_singleton.mp h]
        exact ⟨gl.head 12 (by decide) (by decide), by show 1 ≤ ts.length; omega, by show ts.length ≤ 4; omega, ht⟩
  · obtain ⟨b, x2, x3, x4, x5, hb, hg, rfl⟩ := he
    rw [range_len] at hb
    walk_at "ev"
    exact ⟨b, ⟨by omega, by omega, hg⟩, rfl⟩
/-! ### places -/
abbrev Pl : Type := Nat × Nat × Nat
def encP (p : Pl) : PyData := .tuple [.int p.1, .int p.2.1, .int p.2.2]
structure VP (b : Bk) (p : Pl) : Prop where
  c : p.1 < b.length
  k : p.2.1 < (cp b p.1).2.length
  s : p.2.2 < (par b p.1 p.2.1).length
theorem ix_B {b : Bk} {i : Nat} (h : i < b.length) : ixD (encB b) (.int i) = .ok (encC (cp b i)) := by
  show opt (atI (b.map encC) (i : Int)) = _
  rw [atI_ok _ _ (by simpa using h), List.getElem_map, cp_eq h]; rfl
theorem ix_C1 (c : Chp) : ixD (encC c) (.int 1) = .ok (.tuple (c.2.map encT)) := rfl
theorem ix_C0 (c : Chp) : ixD (encC c) (.int 0) = .ok (.str (st c.1)) := rfl
theorem ix_T {b : Bk} {i k : Nat} (h : k < (cp b i).2.length) : ixD (.tuple ((cp b i).2.map encT)) (.int k) = .ok (.str (st (par b i k))) := by
  show opt (atI ((cp b i).2.map encT) (k : Int)) = _
  rw [atI_ok _ _ (by simpa using h), List.getElem_map, par_eq h]; rfl
theorem ix_P0 (p : Pl) : ixD (encP p) (.int 0) = .ok (.int p.1) := rfl
theorem ix_P1 (p : Pl) : ixD (encP p) (.int 1) = .ok (.int p.2.1) := rfl
theorem ix_P2 (p : Pl) : ixD (encP p) (.int 2) = .ok (.int p.2.2) := rfl
theorem len_B (b : Bk) : lenD (encB b) = .ok (.int b.length) := by show R.ok (PyData.int ((b.map encC).length : Int)) = _; rw [List.length_map]
theorem text_at_ok {b : Bk} {p : Pl} (v : VP b p) : m_text_at [.val (encB b), .val (encP p)] = .ok (.str (st (par b p.1 p.2.1))) := by
  refine Ok.eq ?_
  unfold m_text_at b_text_at
  simp_arith [ix_P0, ix_P1, ix_B v.c, ix_C1, ix_T v.k]
theorem nat_of {i : Int} {n : Nat} (h0 : 0 ≤ i) (h : i < (n : Int)) : ∃ k : Nat, i = (k : Int) ∧ k < n := by
  obtain ⟨k, rfl⟩ := Int.eq_ofNat_of_zero_le h0
  exact ⟨k, rfl, by omega⟩
theorem law_place_ok {b : Bk} (g : GB b) (c : Int) : Ok (m_law_place [.val (.int c), .val (encB b)]) fun d => ∃ p, VP b p ∧ d = encP p := by
  unfold m_law_place b_law_place
  have b1 : (0 : Int) < (b.length : Int) := by have := g.one; omega
  obtain ⟨i, hi, hi2⟩ := nat_of (mixZ_nn c 9883 b1) (mixZ_lt c 9883 b1)
  have gc := g.chap hi2
  have c1 : (0 : Int) < ((cp b i).2.length : Int) := by have := gc.one; omega
  obtain ⟨k, hk, hk2⟩ := nat_of (mixZ_nn c 9871 c1) (mixZ_lt c 9871 c1)
  have gt := g.par hi2 hk2
  have p1 : (0 : Int) < ((par b i k).length : Int) := by have := gt.one; omega
  obtain ⟨s, hs, hs2⟩ := nat_of (mixZ_nn c 9859 p1) (mixZ_lt c 9859 p1)
  have pm := gt.most
  simp_arith [len_B, mix_ok, b1, hi, ix_B hi2, ix_C1, c1, hk, ix_T hk2, st_len, show (par b i k).length ≤ 1000000 by omega, p1, hs]
  exact ⟨(i, k, s), ⟨hi2, hk2, hs2⟩, rfl⟩
/-! ### over the whole book -/
def overB {α : Type} (b : Bk) (f : Nat → Nat → List α) : List α := (List.range b.length).flatMap fun i => (List.range (cp b i).2.length).flatMap fun k => f i k
theorem flat_succ {α : Type} (n : Nat) (f : Nat → List α) : (List.range (n + 1)).flatMap f = (List.range n).flatMap f ++ f n := by
  rw [List.range_succ, List.flatMap_append]; simp
theorem enum_get (xs : List PyData) (i : Nat) (h : i < (enumL 0 xs).length) : (enumL 0 xs)[i] = .tuple [.int i, xs[i]'(by rwa [enumL_length] at h)] := by
  obtain ⟨x, h1, h2⟩ := enumL_get 0 xs i _ (List.getElem?_eq_getElem h)
  rw [h2, Int.zero_add]
  rw [enumL_length] at h
  rw [List.getElem?_eq_getElem h] at h1
  cases h1
  rfl
theorem flat_len {α : Type} (n m : Nat) (f : Nat → List α) (h : ∀ i, i < n → (f i).length ≤ m) : ((List.range n).flatMap f).length ≤ n * m := by
  induction n with
  | zero => simp
  | succ n ih =>
    rw [flat_succ, List.length_append]
    have := ih fun i hi => h i (by omega)
    have := h n (by omega)
    rw [Nat.succ_mul]; omega
end LB

namespace LB
open PySem PySem.Spec PyProof.Rows L2 L3
local macro_rules | `(tactic| walk_at "ev") => `(tactic| simp only [ev_dVar, ev_dOwn, ev_dC, ev_d2, ev_d1, ev_dTest, ev_dChain, ev_dChain3, ev_dTr, ev_dNot, ev_dAnd, ev_dOr, ev_dAndV, ev_dOrV, ev_dNotV, ev_dIf, ev_oNone, ev_oSome, ev_dSlice, ev_dSlice3, ev_lNil, ev_lCons, ev_dTup, ev_dLst, ev_aNil, ev_aCons, ev_aScr, ev_dCall, ev_dScrLen, ev_dScrIx, ev_dSm1, ev_iItems1, ev_iRange1, ev_iRange2, ev_iRange3, ev_dPgLen, ev_sPgApp, ev_sPgPush, ev_sPgNil, ev_sPgNew, ev_sFreezeP, ev_sCallB, ev_dOrX, ev_dDctIx, ev_dDctGet, ev_dDctNin, ev_dDctKeys, ev_sDctNew, ev_sDctSet, ev_sDctOf, ev_iEnumD, ev_iZipD, ev_tTrue, ev_dLcx, ev_sNil, ev_sSeq, ev_sFreeze, ev_sAsg, ev_sPar, ev_sOwnL, ev_sAppend, ev_sExtend, ev_sRet, ev_sRetOwn, ev_sRetN, ev_sIf, ev_sDrop, ev_sWhile, ev_sFor, ev_sRaise, ev_dLm1, ev_dIsE, ev_dIsVE, ev_dNoneX, ev_aExc, ev_sMovE, ev_sTry, ev_gN_, ev_gTt, ev_gsC_, ev_gsN_, ev_seq_nx, ev_seq_rt, ev_seq_bk, ev_seq_ct, ev_lo_nx, ev_lo_rt, ev_lo_bk, ev_lo_ct, ev_out_nx, ev_out_rt, ev_den_, ev_guard_, ev_asBool_, ev_asInt_, ev_asStr_, ev_tr_none, ev_tr_bool, ev_tr_int, ev_tr_str, ev_tr_list, ev_tr_tuple, ev_add_ii, ev_add_ss, ev_add_tt, ev_add_ll, ev_sub_ii, ev_mul_ii, ev_mul_si, ev_mul_li, ev_mul_ti, ev_mod_ii, ev_div_ii, ev_neg_i, ev_eq_ss, ev_eq_ii, ev_ne_ss, ev_ne_ii, ev_lt_ii, ev_lt_ss, ev_le_ii, ev_le_ss, ev_ge_ii, ev_gt_ii, ev_is_bb, ev_isn_, ev_in_ss, ev_notIn_, ev_ix_l, ev_ix_t, ev_ix_s, ev_sl_l, ev_sl_t, ev_sl_s, ev_slS_l, ev_mkTup_, ev_mkLst_, ev_len_s, ev_len_l, ev_len_t, ev_int_i, ev_int_b, ev_tup_l, ev_tup_t, ev_lst_l, ev_lst_t, ev_sum_l, ev_all_l, ev_max1_l, ev_max2_, ev_min2_, ev_asList_, ev_clr_nx, ev_clr_rt, ev_tr_nx, ev_tr_rt, ev_seq_rb, ev_seq_ex, ev_lo_rb, ev_lo_ex, ev_outB_nx, ev_outB_rb, ev_outB_ex, ev_nxB_, ev_pgsOf_b, ev_bigOf_b, ev_bigOf_s, ev_putB_, ev_lastD_, ev_dctOf_b, ev_frP_, ev_countD_, ev_indexD_, ev_isTD_, ev_isTD2_, ev_items_l, ev_items_t, ev_items_s, ev_itS_l, ev_itS_t, ev_strip_, ev_join_, ev_split_, ev_starts_, ev_ends_, ev_opt_some, ev_opt_none, ev_noexc_ok, ev_lc_nil, ev_lc_cons, ev_for_nil, ev_wipe_nil, ev_wipe_cons, ev_fr_, ev_scr_, ev_isT_tuple_n, ev_isT_tuple_b, ev_isT_tuple_i, ev_isT_tuple_s, ev_isT_tuple_t, ev_isT_tuple_l, ev_isT_bool_n, ev_isT_bool_b, ev_isT_bool_i, ev_isT_bool_s, ev_isT_bool_t, ev_isT_bool_l, ev_isT_int_n, ev_isT_int_b, ev_isT_int_i, ev_isT_int_s, ev_isT_int_t, ev_isT_int_l, ev_isT_str_n, ev_isT_str_b, ev_isT_str_i, ev_isT_str_s, ev_isT_str_t, ev_isT_str_l, ev_isT_list_n, ev_isT_list_b, ev_isT_list_i, ev_isT_list_s, ev_isT_list_t, ev_isT_list_l, ev_is_nn, ev_is_bn, ev_is_in, ev_is_sn, ev_is_tn, ev_is_ln, BIG_eq, Ok_bind, Ok_ok, Ok_noexc, at_0, at_1, at_2, at_3, at_4, R.ok_bind, R.exc_bind, R.bad_bind, sget_cons_zero, sget_cons_succ, List.set_cons_zero, List.set_cons_succ, List.cons_append, List.nil_append, List.append_nil, List.length_cons, List.length_nil, List.replicate_succ, List.replicate_zero, ite_true, ite_false, Bool.not_true, Bool.not_false, Bool.false_eq_true, decide_eq_true_eq, Nat.zero_add, ↓reduceIte, Nat.reduceAdd, Int.reduceLT, Int.reduceLE, Int.reduceAdd, Int.reduceSub, Int.reduceMul, Int.reduceNeg, LIM_eq, Int.reduceAbs, Nat.reduceLT, true_or, or_true, true_and, and_true, Int.natAbs_natCast, Int.toNat_natCast, Nat.mul_zero, Nat.add_zero, Int.reduceToNat, List.flatten_nil, List.flatten_cons, List.length_append, List.length_map, Int.zero_add, ne_eq, not_false_eq_true, not_true_eq_false,  Nat.reduceSub, Nat.reduceLeDiff, Nat.reduceEqDiff, decide_true, decide_false, Bool.and_true, Bool.true_and, Bool.and_false, Bool.false_and, Bool.or_true, Bool.true_or, Bool.or_false, Bool.false_or])
local macro_rules | `(tactic| simp_arith [$xs,*]) => `(tactic| simp only [ev_dVar, ev_dOwn, ev_dC, ev_d2, ev_d1, ev_dTest, ev_dChain, ev_dChain3, ev_dTr, ev_dNot, ev_dAnd, ev_dOr, ev_dAndV, ev_dOrV, ev_dNotV, ev_dIf, ev_oNone, ev_oSome, ev_dSlice, ev_dSlice3, ev_lNil, ev_lCons, ev_dTup, ev_dLst, ev_aNil, ev_aCons, ev_aScr, ev_dCall, ev_dScrLen, ev_dScrIx, ev_dSm1, ev_iItems1, ev_iRange1, ev_iRange2, ev_iRange3, ev_dPgLen, ev_sPgApp, ev_sPgPush, ev_sPgNil, ev_sPgNew, ev_sFreezeP, ev_sCallB, ev_dOrX, ev_dDctIx, ev_dDctGet, ev_dDctNin, ev_dDctKeys, ev_sDctNew, ev_sDctSet, ev_sDctOf, ev_iEnumD, ev_iZipD, ev_tTrue, ev_dLcx, ev_sNil, ev_sSeq, ev_sFreeze, ev_sAsg, ev_sPar, ev_sOwnL, ev_sAppend, ev_sExtend, ev_sRet, ev_sRetOwn, ev_sRetN, ev_sIf, ev_sDrop, ev_sWhile, ev_sFor, ev_sRaise, ev_dLm1, ev_dIsE, ev_dIsVE, ev_dNoneX, ev_aExc, ev_sMovE, ev_sTry, ev_gN_, ev_gTt, ev_gsC_, ev_gsN_, ev_seq_nx, ev_seq_rt, ev_seq_bk, ev_seq_ct, ev_lo_nx, ev_lo_rt, ev_lo_bk, ev_lo_ct, ev_out_nx, ev_out_rt, ev_den_, ev_guard_, ev_asBool_, ev_asInt_, ev_asStr_, ev_tr_none, ev_tr_bool, ev_tr_int, ev_tr_str, ev_tr_list, ev_tr_tuple, ev_add_ii, ev_add_ss, ev_add_tt, ev_add_ll, ev_sub_ii, ev_mul_ii, ev_mul_si, ev_mul_li, ev_mul_ti, ev_mod_ii, ev_div_ii, ev_neg_i, ev_eq_ss, ev_eq_ii, ev_ne_ss, ev_ne_ii, ev_lt_ii, ev_lt_ss, ev_le_ii, ev_le_ss, ev_ge_ii, ev_gt_ii, ev_is_bb, ev_isn_, ev_in_ss, ev_notIn_, ev_ix_l, ev_ix_t, ev_ix_s, ev_sl_l, ev_sl_t, ev_sl_s, ev_slS_l, ev_mkTup_, ev_mkLst_, ev_len_s, ev_len_l, ev_len_t, ev_int_i, ev_int_b, ev_tup_l, ev_tup_t, ev_lst_l, ev_lst_t, ev_sum_l, ev_all_l, ev_max1_l, ev_max2_, ev_min2_, ev_asList_, ev_clr_nx, ev_clr_rt, ev_tr_nx, ev_tr_rt, ev_seq_rb, ev_seq_ex, ev_lo_rb, ev_lo_ex, ev_outB_nx, ev_outB_rb, ev_outB_ex, ev_nxB_, ev_pgsOf_b, ev_bigOf_b, ev_bigOf_s, ev_putB_, ev_lastD_, ev_dctOf_b, ev_frP_, ev_countD_, ev_indexD_, ev_isTD_, ev_isTD2_, ev_items_l, ev_items_t, ev_items_s, ev_itS_l, ev_itS_t, ev_strip_, ev_join_, ev_split_, ev_starts_, ev_ends_, ev_opt_some, ev_opt_none, ev_noexc_ok, ev_lc_nil, ev_lc_cons, ev_for_nil, ev_wipe_nil, ev_wipe_cons, ev_fr_, ev_scr_, ev_isT_tuple_n, ev_isT_tuple_b, ev_isT_tuple_i, ev_isT_tuple_s, ev_isT_tuple_t, ev_isT_tuple_l, ev_isT_bool_n, ev_isT_bool_b, ev_isT_bool_i, ev_isT_bool_s, ev_isT_bool_t, ev_isT_bool_l, ev_isT_int_n, ev_isT_int_b, ev_isT_int_i, ev_isT_int_s, ev_isT_int_t, ev_isT_int_l, ev_isT_str_n, ev_isT_str_b, ev_isT_str_i, ev_isT_str_s, ev_isT_str_t, ev_isT_str_l, ev_isT_list_n, ev_isT_list_b, ev_isT_list_i, ev_isT_list_s, ev_isT_list_t, ev_isT_list_l, ev_is_nn, ev_is_bn, ev_is_in, ev_is_sn, ev_is_tn, ev_is_ln, BIG_eq, Ok_bind, Ok_ok, Ok_noexc, at_0, at_1, at_2, at_3, at_4, R.ok_bind, R.exc_bind, R.bad_bind, sget_cons_zero, sget_cons_succ, List.set_cons_zero, List.set_cons_succ, List.cons_append, List.nil_append, List.append_nil, List.length_cons, List.length_nil, List.replicate_succ, List.replicate_zero, ite_true, ite_false, Bool.not_true, Bool.not_false, Bool.false_eq_true, decide_eq_true_eq, Nat.zero_add, ↓reduceIte, Nat.reduceAdd, Int.reduceLT, Int.reduceLE, Int.reduceAdd, Int.reduceSub, Int.reduceMul, Int.reduceNeg, LIM_eq, Int.reduceAbs, Nat.reduceLT, true_or, or_true, true_and, and_true, Int.natAbs_natCast, Int.toNat_natCast, Nat.mul_zero, Nat.add_zero, Int.reduceToNat, List.flatten_nil, List.flatten_cons, List.length_append, List.length_map, Int.zero_add, ne_eq, not_false_eq_true, not_true_eq_false,  Nat.reduceSub, Nat.reduceLeDiff, Nat.reduceEqDiff, decide_true, decide_false, Bool.and_true, Bool.true_and, Bool.and_false, Bool.false_and, Bool.or_true, Bool.true_or, Bool.or_false, Bool.false_or, $xs,*])
/-! ### cuts -/
theorem cut_nat {α : Type} (l : List α) (a b : Nat) : cutD l (some (a : Int)) (some (b : Int)) = (l.drop a).take (b - a) := by
  unfold L3.cutD
  rw [HT.sIx_nat, HT.sIx_nat]
  rcases Nat.lt_or_ge a l.length with h | h
  · rw [Nat.min_eq_left (show a ≤ l.length by omega)]
    rcases Nat.le_total b l.length with k | k
    · rw [Nat.min_eq_left k]
    · rw [Nat.min_eq_right k, List.take_of_length_le (by rw [List.length_drop]; omega), List.take_of_length_le (by rw [List.length_drop]; omega)]
  · rw [Nat.min_eq_right h, List.drop_of_length_le (Nat.le_refl _), List.drop_of_length_le h]; simp
theorem cut_from {α : Type} (l : List α) (a : Nat) : cutD l (some (a : Int)) none = l.drop a := by
  unfold L3.cutD
  rw [HT.sIx_nat, HT.sIx_none]
  rcases Nat.lt_or_ge a l.length with h | h
  · rw [Nat.min_eq_left (by omega), List.take_of_length_le (by rw [List.length_drop]; omega)]
  · rw [Nat.min_eq_right h, List.drop_of_length_le (Nat.le_refl _), List.drop_of_length_le h]; simp
theorem cut_to {α : Type} (l : List α) (m : Nat) : cutD l none (some (m : Int)) = l.take m := by
  unfold L3.cutD
  rw [HT.sIx_nat, HT.sIx_none, Nat.sub_zero, List.drop_zero]
  rcases Nat.le_total m l.length with h | h
  · rw [Nat.min_eq_left h]
  · rw [Nat.min_eq_right h, List.take_of_length_le (Nat.le_refl _), List.take_of_length_le h]
theorem take_mid {α : Type} (l : List α) (a b : Nat) (h : a ≤ b) : l.take a ++ (l.drop a).take (b - a) = l.take b := by
  conv => rhs; rw [show b = a + (b - a) by omega, List.take_add]
/-! ### what the lines are -/
structure Row (l : List Nat) (w b e : Nat) : Prop where
  lt : b < e
  le : e ≤ l.length
  wide : e ≤ b + w
  fst : l[b]? ≠ some 32
  lst : l[e - 1]? ≠ some 32
  full : e < l.length → blankAt l e = false → e = b + w ∧ ∀ j, b ≤ j → j < e → l[j]? ≠ some 32
  room : ∀ n, blankAt l e = true → (e + 1 + n = l.length ∨ l[e + 1 + n]? = some 32) → b + w < e + 1 + n
theorem row_of {l : List Nat} (g : GT l) {w b : Nat} (hw : 2 ≤ w) (hb : b < l.length) (hf : l[b]? ≠ some 32) : Row l w b (lineEnd l b w) := by
  have hg := lineEnd_gt (l := l) (w := w) hb (by omega)
  by_cases h : l.length ≤ b + w
  · have e : lineEnd l b w = l.length := by unfold lineEnd; rw [if_pos h]
    rw [e] at hg ⊢
    refine ⟨hg.1, hg.2.1, hg.2.2, hf, g.lst, fun h => by omega, fun n h => ?_⟩
    unfold blankAt at h
    rw [List.getElem?_eq_none (Nat.le_refl _)] at h
    cases h
  · have e : lineEnd l b w = match ((List.range w).filter fun k => blankAt l (b + 1 + k)).getLast? with | some k => b + 1 + k | none => b + w := by unfold lineEnd; exact if_neg h
    have hp : ((List.range w).filter fun k => blankAt l (b + 1 + k)).Pairwise (· < ·) := List.Pairwise.sublist List.filter_sublist List.pairwise_lt_range
    have mem : ∀ k, k < w → blankAt l (b + 1 + k) = true → k ∈ (List.range w).filter fun k => blankAt l (b + 1 + k) := fun k h1 h2 => List.mem_filter.mpr ⟨List.mem_range.mpr h1, h2⟩
    have mem2 : ∀ k ∈ (List.range w).filter (fun k => blankAt l (b + 1 + k)), k < w ∧ blankAt l (b + 1 + k) = true := fun k hk => ⟨List.mem_range.mp (List.mem_filter.mp hk).1, (List.mem_filter.mp hk).2⟩
    generalize (List.range w).filter (fun k => blankAt l (b + 1 + k)) = fs at e hp mem mem2
    by_cases hn : fs = []
    · subst hn
      have no : ∀ j, b ≤ j → j ≤ b + w → l[j]? ≠ some 32 := fun j h1 h2 h3 => by
        rcases Nat.eq_or_lt_of_le h1 with q | q
        · subst q; exact hf h3
        · have := mem (j - (b + 1)) (by omega) (by unfold blankAt; rw [show b + 1 + (j - (b + 1)) = j by omega, h3]; rfl)
          cases this
      have e' : lineEnd l b w = b + w := e
      rw [e'] at hg ⊢
      refine ⟨hg.1, hg.2.1, hg.2.2, hf, no _ (by omega) (by omega), fun _ _ => ⟨rfl, fun j h1 h2 => no j h1 (by omega)⟩, fun n h => ?_⟩
      exact (no _ (by omega) (Nat.le_refl _) (by unfold blankAt at h; exact eq_of_beq h)).elim
    · rw [List.getLast?_eq_some_getLast hn] at e
      have hm := mem2 _ (List.getLast_mem hn)
      have hlast := pw_last fs hn hp
      generalize fs.getLast hn = k at e hm hlast
      have e' : lineEnd l b w = b + 1 + k := e
      rw [e'] at hg ⊢
      have hbl : l[b + 1 + k]? = some 32 := eq_of_beq hm.2
      refine ⟨hg.1, hg.2.1, hg.2.2, hf, fun q => ?_, fun _ h => (by rw [hm.2] at h; cases h), fun n _ hh => ?_⟩
      · exact g.dbl _ q (by rw [show b + 1 + k - 1 + 1 = b + 1 + k by omega]; exact hbl)
      · rcases hh with hh | hh
        · omega
        · rcases Nat.lt_or_ge (b + w) (b + 1 + k + 1 + n) with q | q
          · exact q
          · have := hlast _ (mem (k + 1 + n) (by omega) (by unfold blankAt; rw [show b + 1 + (k + 1 + n) = b + 1 + k + 1 + n by omega, hh]; rfl))
            omega
theorem next_good {l : List Nat} (g : GT l) {e : Nat} (h : nextB l e < l.length) : l[nextB l e]? ≠ some 32 := by
  unfold nextB at h ⊢
  split
  · rename_i hb
    intro q
    exact g.dbl e (eq_of_beq hb) q
  · rename_i hb
    intro q
    exact hb (by unfold blankAt; rw [q]; rfl)
/-- a run of lines from b on -/
inductive Run (l : List Nat) (w : Nat) : Nat → List (Nat × Nat) → Prop
  | nil : Run l w l.length []
  | cons (b e : Nat) (r : List (Nat × Nat)) : Row l w b e → e = lineEnd l b w → (r = [] → e = l.length) → (∀ p ∈ r.head?, p.1 = nextB l e) → Run l w (if r = [] then l.length else nextB l e) r → Run l w b ((b, e) :: r)
theorem Run.head {l : List Nat} {w b : Nat} {r : List (Nat × Nat)} (h : Run l w b r) : ∀ p ∈ r.head?, p.1 = b := by
  intro p hp
  cases h with
  | nil => cases hp
  | cons b e r _ _ _ _ _ => cases hp; rfl
theorem run_of {l : List Nat} (g : GT l) {w : Nat} (hw : 2 ≤ w) : ∀ (n b : Nat), b < l.length → l.length < n + b → l[b]? ≠ some 32 → Run l w b (linesF l w n b)
  | 0, b, h, h2, _ => by omega
  | n + 1, b, h, h2, h3 => by
    have hr := row_of g hw h h3
    have e1 : linesF l w (n + 1) b = (b, lineEnd l b w) :: linesF l w n (nextB l (lineEnd l b w)) := if_pos h
    rw [e1]
    have hnb := nextB_ok hr.le
    by_cases hq : nextB l (lineEnd l b w) < l.length
    · have ih := run_of g hw n _ hq (by have := hr.lt; omega) (next_good g hq)
      have hne : linesF l w n (nextB l (lineEnd l b w)) ≠ [] := by
        cases n with
        | zero => have := hr.lt; omega
        | succ n =>
          rw [show linesF l w (n + 1) (nextB l (lineEnd l b w)) = (nextB l (lineEnd l b w), lineEnd l (nextB l (lineEnd l b w)) w) :: linesF l w n (nextB l (lineEnd l (nextB l (lineEnd l b w)) w)) from if_pos hq]
          simp
      refine .cons _ _ _ hr rfl (fun q => (hne q).elim) (fun p hp => ?_) (by rw [if_neg hne]; exact ih)
      exact ih.head p hp
    · have e2 : linesF l w n (nextB l (lineEnd l b w)) = [] := by
        cases n with
        | zero => rfl
        | succ n => exact if_neg hq
      rw [e2]
      refine .cons _ _ _ hr rfl (fun _ => ?_) (fun p hp => by cases hp) (by rw [if_pos rfl]; exact .nil)
      unfold nextB at hq
      split at hq
      · rename_i hb
        have hlt : lineEnd l b w < l.length := by
          have := hnb.2.1
          unfold nextB at this
          rw [if_pos hb] at this
          omega
        exact (g.lst (by rw [show l.length - 1 = lineEnd l b w by omega]; exact eq_of_beq hb)).elim
      · have := hr.le; omega
theorem run_lines {l : List Nat} (g : GT l) {w : Nat} (hw : 2 ≤ w) : Run l w 0 (linesL l w) := run_of g hw _ 0 g.one (by omega) g.fst
theorem lines_ne {l : List Nat} (g : GT l) (w : Nat) : linesL l w ≠ [] := by
  unfold linesL
  rw [show linesF l w (l.length + 1) 0 = (0, lineEnd l 0 w) :: linesF l w l.length (nextB l (lineEnd l 0 w)) from if_pos g.one]
  simp
theorem Run.get {l : List Nat} {w b : Nat} {r : List (Nat × Nat)} (h : Run l w b r) : ∀ (i : Nat) (hi : i < r.length), Row l w r[i].1 r[i].2 ∧ r[i].2 = lineEnd l r[i].1 w ∧ (∀ (hj : i + 1 < r.length), r[i + 1].1 = nextB l r[i].2) ∧ (i + 1 = r.length → r[i].2 = l.length) := by
  induction h with
  | nil => intro i hi; simp at hi
  | cons b e r h1 h2 h3 h4 h5 ih =>
    intro i hi
    cases i with
    | zero =>
      refine ⟨h1, h2, fun hj => ?_, fun hj => ?_⟩
      · cases r with
        | nil => simp at hj
        | cons p r => exact h4 p rfl
      · exact h3 (by cases r with | nil => rfl | cons p r => simp at hj)
    | succ i =>
      obtain ⟨a1, a2, a3, a4⟩ := ih i (by simpa using hi)
      exact ⟨a1, a2, fun hj => a3 (by simpa using hj), fun hj => a4 (by simpa using hj)⟩
theorem sub_get {α : Type} (l : List α) (b e k : Nat) (h : k < e - b) : ((l.drop b).take (e - b))[k]? = l[b + k]? := by
  rw [List.getElem?_take_of_lt h, List.getElem?_drop]
theorem sub_len {α : Type} (l : List α) (b e : Nat) (h : e ≤ l.length) : ((l.drop b).take (e - b)).length = e - b := by
  rw [List.length_take, List.length_drop]; omega
theorem Row.trim {l : List Nat} {w b e : Nat} (r : Row l w b e) : LB.trim ((l.drop b).take (e - b)) = (l.drop b).take (e - b) := by
  rw [trim_eq_iff, sub_len l b e r.le]
  have := r.lt
  refine ⟨?_, ?_⟩
  · rw [sub_get _ _ _ _ (by omega)]; exact r.fst
  · rw [sub_get _ _ _ _ (by omega), show b + (e - b - 1) = e - 1 by omega]; exact r.lst
theorem split_head (l : List Nat) : ∀ (acc : List Nat), ∃ r, TL.spl [32] 0 acc l = (acc ++ l.takeWhile (fun c => c != 32)) :: r := by
  induction l with
  | nil => intro acc; exact ⟨[], by rw [TL.spl_nil]; simp⟩
  | cons c r ih =>
    intro acc
    by_cases h : c = 32
    · subst h
      exact ⟨_, by rw [TL.spl_hit (by simp [TL.pre]), List.takeWhile_cons, if_neg (by simp), List.append_nil]⟩
    · obtain ⟨r', e⟩ := ih (acc ++ [c])
      exact ⟨r', by rw [TL.spl_miss (TL.pre_of_head [] r h), e, List.takeWhile_cons, if_pos (by simpa using h)]; simp⟩
theorem st_split (l : List Nat) : ∃ r, Txt.split (st l) (st [32]) = st (l.takeWhile (fun c => c != 32)) :: r := by
  have h := TL.split_spl (st l) (st [32]) (by simp [st]) (TL.kind_ok (by simp [st]))
  obtain ⟨r, e⟩ := split_head l []
  rw [show TL.tl (st [32]) = [32] from rfl, show TL.tl (st l) = l from rfl, e, List.nil_append] at h
  cases q : Txt.split (st l) (st [32]) with
  | nil => rw [q] at h; cases h
  | cons a r' =>
    rw [q, List.map_cons] at h
    injection h with h1 h2
    exact ⟨r', by rw [show a = st (l.takeWhile (fun c => c != 32)) from TL.ext_tl h1]⟩
theorem takeWhile_stop' (l : List Nat) : (l.takeWhile (fun c => c != 32)).length = l.length ∨ l[(l.takeWhile (fun c => c != 32)).length]? = some 32 := by
  induction l with
  | nil => exact .inl rfl
  | cons c r ih =>
    rw [List.takeWhile_cons]
    by_cases h : c = 32
    · subst h; exact .inr rfl
    · rw [if_pos (by simpa using h)]
      rcases ih with ih | ih
      · exact .inl (by simp [ih])
      · exact .inr (by simpa using ih)
theorem sub_one (c : Nat) (l : List Nat) : subIs (st [c]) (st l) = decide (c ∈ l) := by
  unfold subIs
  rw [show (st [c]) = ⟨#[c]⟩ from rfl, StrLaws.found_one, st_tl]
end LB

namespace LB
open PySem PySem.Spec PyProof.Rows L2 L3
local macro_rules | `(tactic| walk_at "ev") => `(tactic| simp only [ev_dVar, ev_dOwn, ev_dC, ev_d2, ev_d1, ev_dTest, ev_dChain, ev_dChain3, ev_dTr, ev_dNot, ev_dAnd, ev_dOr, ev_dAndV, ev_dOrV, ev_dNotV, ev_dIf, ev_oNone, ev_oSome, ev_dSlice, ev_dSlice3, ev_lNil, ev_lCons, ev_dTup, ev_dLst, ev_aNil, ev_aCons, ev_aScr, ev_dCall, ev_dScrLen, ev_dScrIx, ev_dSm1, ev_iItems1, ev_iRange1, ev_iRange2, ev_iRange3, ev_dPgLen, ev_sPgApp, ev_sPgPush, ev_sPgNil, ev_sPgNew, ev_sFreezeP, ev_sCallB, ev_dOrX, ev_dDctIx, ev_dDctGet, ev_dDctNin, ev_dDctKeys, ev_sDctNew, ev_sDctSet, ev_sDctOf, ev_iEnumD, ev_iZipD, ev_tTrue, ev_dLcx, ev_sNil, ev_sSeq, ev_sFreeze, ev_sAsg, ev_sPar, ev_sOwnL, ev_sAppend, ev_sExtend, ev_sRet, ev_sRetOwn, ev_sRetN, ev_sIf, ev_sDrop, ev_sWhile, ev_sFor, ev_sRaise, ev_dLm1, ev_dIsE, ev_dIsVE, ev_dNoneX, ev_aExc, ev_sMovE, ev_sTry, ev_gN_, ev_gTt, ev_gsC_, ev_gsN_, ev_seq_nx, ev_seq_rt, ev_seq_bk, ev_seq_ct, ev_lo_nx, ev_lo_rt, ev_lo_bk, ev_lo_ct, ev_out_nx, ev_out_rt, ev_den_, ev_guard_, ev_asBool_, ev_asInt_, ev_asStr_, ev_tr_none, ev_tr_bool, ev_tr_int, ev_tr_str, ev_tr_list, ev_tr_tuple, ev_add_ii, ev_add_ss, ev_add_tt, ev_add_ll, ev_sub_ii, ev_mul_ii, ev_mul_si, ev_mul_li, ev_mul_ti, ev_mod_ii, ev_div_ii, ev_neg_i, ev_eq_ss, ev_eq_ii, ev_ne_ss, ev_ne_ii, ev_lt_ii, ev_lt_ss, ev_le_ii, ev_le_ss, ev_ge_ii, ev_gt_ii, ev_is_bb, ev_isn_, ev_in_ss, ev_notIn_, ev_ix_l, ev_ix_t, ev_ix_s, ev_sl_l, ev_sl_t, ev_sl_s, ev_slS_l, ev_mkTup_, ev_mkLst_, ev_len_s, ev_len_l, ev_len_t, ev_int_i, ev_int_b, ev_tup_l, ev_tup_t, ev_lst_l, ev_lst_t, ev_sum_l, ev_all_l, ev_max1_l, ev_max2_, ev_min2_, ev_asList_, ev_clr_nx, ev_clr_rt, ev_tr_nx, ev_tr_rt, ev_seq_rb, ev_seq_ex, ev_lo_rb, ev_lo_ex, ev_outB_nx, ev_outB_rb, ev_outB_ex, ev_nxB_, ev_pgsOf_b, ev_bigOf_b, ev_bigOf_s, ev_putB_, ev_lastD_, ev_dctOf_b, ev_frP_, ev_countD_, ev_indexD_, ev_isTD_, ev_isTD2_, ev_items_l, ev_items_t, ev_items_s, ev_itS_l, ev_itS_t, ev_strip_, ev_join_, ev_split_, ev_starts_, ev_ends_, ev_opt_some, ev_opt_none, ev_noexc_ok, ev_lc_nil, ev_lc_cons, ev_for_nil, ev_wipe_nil, ev_wipe_cons, ev_fr_, ev_scr_, ev_isT_tuple_n, ev_isT_tuple_b, ev_isT_tuple_i, ev_isT_tuple_s, ev_isT_tuple_t, ev_isT_tuple_l, ev_isT_bool_n, ev_isT_bool_b, ev_isT_bool_i, ev_isT_bool_s, ev_isT_bool_t, ev_isT_bool_l, ev_isT_int_n, ev_isT_int_b, ev_isT_int_i, ev_isT_int_s, ev_isT_int_t, ev_isT_int_l, ev_isT_str_n, ev_isT_str_b, ev_isT_str_i, ev_isT_str_s, ev_isT_str_t, ev_isT_str_l, ev_isT_list_n, ev_isT_list_b, ev_isT_list_i, ev_isT_list_s, ev_isT_list_t, ev_isT_list_l, ev_is_nn, ev_is_bn, ev_is_in, ev_is_sn, ev_is_tn, ev_is_ln, BIG_eq, Ok_bind, Ok_ok, Ok_noexc, at_0, at_1, at_2, at_3, at_4, R.ok_bind, R.exc_bind, R.bad_bind, sget_cons_zero, sget_cons_succ, List.set_cons_zero, List.set_cons_succ, List.cons_append, List.nil_append, List.append_nil, List.length_cons, List.length_nil, List.replicate_succ, List.replicate_zero, ite_true, ite_false, Bool.not_true, Bool.not_false, Bool.false_eq_true, decide_eq_true_eq, Nat.zero_add, ↓reduceIte, Nat.reduceAdd, Int.reduceLT, Int.reduceLE, Int.reduceAdd, Int.reduceSub, Int.reduceMul, Int.reduceNeg, LIM_eq, Int.reduceAbs, Nat.reduceLT, true_or, or_true, true_and, and_true, Int.natAbs_natCast, Int.toNat_natCast, Nat.mul_zero, Nat.add_zero, Int.reduceToNat, List.flatten_nil, List.flatten_cons, List.length_append, List.length_map, Int.zero_add, ne_eq, not_false_eq_true, not_true_eq_false,  Nat.reduceSub, Nat.reduceLeDiff, Nat.reduceEqDiff, decide_true, decide_false, Bool.and_true, Bool.true_and, Bool.and_false, Bool.false_and, Bool.or_true, Bool.true_or, Bool.or_false, Bool.false_or])
local macro_rules | `(tactic| simp_arith [$xs,*]) => `(tactic| simp only [ev_dVar, ev_dOwn, ev_dC, ev_d2, ev_d1, ev_dTest, ev_dChain, ev_dChain3, ev_dTr, ev_dNot, ev_dAnd, ev_dOr, ev_dAndV, ev_dOrV, ev_dNotV, ev_dIf, ev_oNone, ev_oSome, ev_dSlice, ev_dSlice3, ev_lNil, ev_lCons, ev_dTup, ev_dLst, ev_aNil, ev_aCons, ev_aScr, ev_dCall, ev_dScrLen, ev_dScrIx, ev_dSm1, ev_iItems1, ev_iRange1, ev_iRange2, ev_iRange3, ev_dPgLen, ev_sPgApp, ev_sPgPush, ev_sPgNil, ev_sPgNew, ev_sFreezeP, ev_sCallB, ev_dOrX, ev_dDctIx, ev_dDctGet, ev_dDctNin, ev_dDctKeys, ev_sDctNew, ev_sDctSet, ev_sDctOf, ev_iEnumD, ev_iZipD, ev_tTrue, ev_dLcx, ev_sNil, ev_sSeq, ev_sFreeze, ev_sAsg, ev_sPar, ev_sOwnL, ev_sAppend, ev_sExtend, ev_sRet, ev_sRetOwn, ev_sRetN, ev_sIf, ev_sDrop, ev_sWhile, ev_sFor, ev_sRaise, ev_dLm1, ev_dIsE, ev_dIsVE, ev_dNoneX, ev_aExc, ev_sMovE, ev_sTry, ev_gN_, ev_gTt, ev_gsC_, ev_gsN_, ev_seq_nx, ev_seq_rt, ev_seq_bk, ev_seq_ct, ev_lo_nx, ev_lo_rt, ev_lo_bk, ev_lo_ct, ev_out_nx, ev_out_rt, ev_den_, ev_guard_, ev_asBool_, ev_asInt_, ev_asStr_, ev_tr_none, ev_tr_bool, ev_tr_int, ev_tr_str, ev_tr_list, ev_tr_tuple, ev_add_ii, ev_add_ss, ev_add_tt, ev_add_ll, ev_sub_ii, ev_mul_ii, ev_mul_si, ev_mul_li, ev_mul_ti, ev_mod_ii, ev_div_ii, ev_neg_i, ev_eq_ss, ev_eq_ii, ev_ne_ss, ev_ne_ii, ev_lt_ii, ev_lt_ss, ev_le_ii, ev_le_ss, ev_ge_ii, ev_gt_ii, ev_is_bb, ev_isn_, ev_in_ss, ev_notIn_, ev_ix_l, ev_ix_t, ev_ix_s, ev_sl_l, ev_sl_t, ev_sl_s, ev_slS_l, ev_mkTup_, ev_mkLst_, ev_len_s, ev_len_l, ev_len_t, ev_int_i, ev_int_b, ev_tup_l, ev_tup_t, ev_lst_l, ev_lst_t, ev_sum_l, ev_all_l, ev_max1_l, ev_max2_, ev_min2_, ev_asList_, ev_clr_nx, ev_clr_rt, ev_tr_nx, ev_tr_rt, ev_seq_rb, ev_seq_ex, ev_lo_rb, ev_lo_ex, ev_outB_nx, ev_outB_rb, ev_outB_ex, ev_nxB_, ev_pgsOf_b, ev_bigOf_b, ev_bigOf_s, ev_putB_, ev_lastD_, ev_dctOf_b, ev_frP_, ev_countD_, ev_indexD_, ev_isTD_, ev_isTD2_, ev_items_l, ev_items_t, ev_items_s, ev_itS_l, ev_itS_t, ev_strip_, ev_join_, ev_split_, ev_starts_, ev_ends_, ev_opt_some, ev_opt_none, ev_noexc_ok, ev_lc_nil, ev_lc_cons, ev_for_nil, ev_wipe_nil, ev_wipe_cons, ev_fr_, ev_scr_, ev_isT_tuple_n, ev_isT_tuple_b, ev_isT_tuple_i, ev_isT_tuple_s, ev_isT_tuple_t, ev_isT_tuple_l, ev_isT_bool_n, ev_isT_bool_b, ev_isT_bool_i, ev_isT_bool_s, ev_isT_bool_t, ev_isT_bool_l, ev_isT_int_n, ev_isT_int_b, ev_isT_int_i, ev_isT_int_s, ev_isT_int_t, ev_isT_int_l, ev_isT_str_n, ev_isT_str_b, ev_isT_str_i, ev_isT_str_s, ev_isT_str_t, ev_isT_str_l, ev_isT_list_n, ev_isT_list_b, ev_isT_list_i, ev_isT_list_s, ev_isT_list_t, ev_isT_list_l, ev_is_nn, ev_is_bn, ev_is_in, ev_is_sn, ev_is_tn, ev_is_ln, BIG_eq, Ok_bind, Ok_ok, Ok_noexc, at_0, at_1, at_2, at_3, at_4, R.ok_bind, R.exc_bind, R.bad_bind, sget_cons_zero, sget_cons_succ, List.set_cons_zero, List.set_cons_succ, List.cons_append, List.nil_append, List.append_nil, List.length_cons, List.length_nil, List.replicate_succ, List.replicate_zero, ite_true, ite_false, Bool.not_true, Bool.not_false, Bool.false_eq_true, decide_eq_true_eq, Nat.zero_add, ↓reduceIte, Nat.reduceAdd, Int.reduceLT, Int.reduceLE, Int.reduceAdd, Int.reduceSub, Int.reduceMul, Int.reduceNeg, LIM_eq, Int.reduceAbs, Nat.reduceLT, true_or, or_true, true_and, and_true, Int.natAbs_natCast, Int.toNat_natCast, Nat.mul_zero, Nat.add_zero, Int.reduceToNat, List.flatten_nil, List.flatten_cons, List.length_append, List.length_map, Int.zero_add, ne_eq, not_false_eq_true, not_true_eq_false,  Nat.reduceSub, Nat.reduceLeDiff, Nat.reduceEqDiff, decide_true, decide_false, Bool.and_true, Bool.true_and, Bool.and_false, Bool.false_and, Bool.or_true, Bool.true_or, Bool.or_false, Bool.false_or, $xs,*])
/-! ### words -/
/-- no more than some -/
structure WB (b : Bk) : Prop where
  most : b.length ≤ 10
  pars : ∀ c ∈ b, c.2.length ≤ 10
  txts : ∀ c ∈ b, ∀ t ∈ c.2, t.length ≤ 100
theorem GB.wb {b : Bk} (g : GB b) : WB b := ⟨by have := g.most; omega, fun c hc => by have := (g.chaps c hc).most; omega, fun c hc t ht => by have := ((g.chaps c hc).pars t ht).most; omega⟩
theorem WB.cp {b : Bk} (g : WB b) {i : Nat} (h : i < b.length) : (cp b i).2.length ≤ 10 := by rw [← cp_eq h]; exact g.pars _ (List.getElem_mem h)
theorem WB.par {b : Bk} (g : WB b) {i k : Nat} (h : i < b.length) (hk : k < (LB.cp b i).2.length) : (LB.par b i k).length ≤ 100 := by
  rw [← par_eq hk]
  have := g.txts _ (List.getElem_mem h)
  rw [cp_eq h] at this
  exact this _ (List.getElem_mem hk)
def atW (b : Bk) (wd : List Nat) (p : Pl) : Bool := ((par b p.1 p.2.1).drop p.2.2).take wd.length == wd
def plsAt (b : Bk) (i k : Nat) : List Pl := (List.range (par b i k).length).map fun s => (i, k, s)
def allP (b : Bk) : List Pl := overB b (plsAt b)
def found (b : Bk) (wd : List Nat) : List Pl := overB b fun i k => (plsAt b i k).filter (atW b wd)
theorem found_eq (b : Bk) (wd : List Nat) : found b wd = (allP b).filter (atW b wd) := by
  unfold found allP overB
  rw [List.filter_flatMap]
  congr 1
  funext i
  rw [List.filter_flatMap]
theorem over_len {α : Type} {b : Bk} (g : WB b) (f : Nat → Nat → List α) (h : ∀ i k, i < b.length → k < (cp b i).2.length → (f i k).length ≤ 100) (i : Nat) (hi : i ≤ b.length) : ((List.range i).flatMap fun i => (List.range (cp b i).2.length).flatMap fun k => f i k).length ≤ i * 1000 := by
  refine flat_len i 1000 _ fun j hj => ?_
  have := flat_len (cp b j).2.length 100 (fun k => f j k) fun k hk => h j k (by omega) hk
  have := g.cp (i := j) (by omega)
  omega
theorem range0 (n : Nat) : rangeL 0 n = (List.range n).map fun (s : Nat) => PyData.int (s : Int) := by simp [rangeL]
theorem all_found_ok {b : Bk} (g : WB b) (wd : List Nat) (hw : wd.length ≤ 1000) : m_all_found [.val (encB b), .val (.str (st wd))] = .ok (.tuple ((found b wd).map encP)) := by
  refine Ok.eq ?_
  unfold m_all_found b_all_found
  have hfl : ∀ i k, i < b.length → k < (cp b i).2.length → ((plsAt b i k).filter (atW b wd)).length ≤ 100 := fun i k hi hk => by
    have h1 := List.length_filter_le (atW b wd) (plsAt b i k)
    have h2 : (plsAt b i k).length = (par b i k).length := by simp [plsAt]
    have := g.par hi hk
    omega
  simp_arith [show encB b = .tuple (b.map encC) from rfl]
  refine for_ok (fun i e => ∃ x3 x4 x5 x6 x7 x8, i ≤ b.length ∧ e = [.val (.tuple (b.map encC)), .val (.str (st wd)), .own (((List.range i).flatMap fun i => (List.range (cp b i).2.length).flatMap fun k => (plsAt b i k).filter (atW b wd)).map encP), x3, x4, x5, x6, x7, x8]) ⟨_, _, _, _, _, _, Nat.zero_le _, rfl⟩ (fun i hi e he => ?_) fun e he => ?_
  · obtain ⟨x3, x4, x5, x6, x7, x8, hil, rfl⟩ := he
    have hi' : i < b.length := by rw [enumL_length, List.length_map] at hi; exact hi
    rw [enum_get, List.getElem_map, cp_eq hi']
    have hc := g.cp hi'
    have hl1 := over_len g _ hfl i hil
    have hb10 := g.most
    simp_arith [show encC (cp b i) = .tuple [.str (st (cp b i).1), .tuple ((cp b i).2.map encT)] from rfl]
    rw [flat_succ]
    generalize (List.range i).flatMap (fun i => (List.range (cp b i).2.length).flatMap fun k => (plsAt b i k).filter (atW b wd)) = acc at hl1 ⊢
    refine for_ok (fun k e => ∃ x6 x7 x8, k ≤ (cp b i).2.length ∧ e = [.val (.tuple (b.map encC)), .val (.str (st wd)), .own ((acc ++ (List.range k).flatMap fun k => (plsAt b i k).filter (atW b wd)).map encP), .val (.int i), .val (.str (st (cp b i).1)), .val (.tuple ((cp b i).2.map encT)), x6, x7, x8]) ⟨x6, x7, x8, Nat.zero_le _, by simp⟩ (fun k hk e he => ?_) fun e he => ?_
    · obtain ⟨x6, x7, x8, hkl, rfl⟩ := he
      have hk' : k < (cp b i).2.length := by rw [enumL_length, List.length_map] at hk; exact hk
      have hp := g.par hi' hk'
      rw [enum_get, List.getElem_map, par_eq hk', flat_succ]
      have hl2 : ((List.range k).flatMap fun k => (plsAt b i k).filter (atW b wd)).length ≤ k * 100 := flat_len k 100 _ fun j hj => hfl i j hi' (by omega)
      simp_arith [encT, st_len, show (par b i k).length ≤ 1000000 by omega, range_len]
      rw [range0, lcR_filter (fun (s : Nat) => PyData.int (s : Int)) (fun s => atW b wd (i, k, s)) (fun s => encP (i, k, s)) _ (fun s hs => by
        refine ⟨_, rfl, ?_, fun _ => by walk_at "ev"; rfl⟩
        simp_arith [st_len, st_cut, show (par b i k).length ≤ 1000000 by omega, show wd.length ≤ 1000000 by omega, st_beq]
        rw [show ((s : Int) + (wd.length : Int)) = ((s + wd.length : Nat) : Int) from rfl, cut_nat, Nat.add_sub_cancel_left]
        rfl)]
      have hl3 := hfl i k hi' hk'
      have e1 : ((List.range (par b i k).length).filter fun s => atW b wd (i, k, s)).map (fun s => encP (i, k, s)) = ((plsAt b i k).filter (atW b wd)).map encP := by
        unfold plsAt
        rw [List.filter_map, List.map_map]; rfl
      rw [e1]
      simp_arith [show acc.length + ((List.range k).flatMap fun k => (plsAt b i k).filter (atW b wd)).length + ((plsAt b i k).filter (atW b wd)).length ≤ 1000000 by omega]
      exact ⟨_, .inl rfl, .val (.int k), .val (.str (st (par b i k))), x8, by omega, by simp only [List.map_append, List.append_assoc]⟩
    · obtain ⟨x6, x7, x8, hkl, rfl⟩ := he
      rw [enumL_length, List.length_map]
      exact ⟨_, .inl rfl, _, _, _, _, _, _, by omega, rfl⟩
  · obtain ⟨x3, x4, x5, x6, x7, x8, hil, rfl⟩ := he
    rw [enumL_length, List.length_map]
    walk_at "ev"
    rfl
theorem law_places_ok {b : Bk} (g : WB b) : m_law_places [.val (encB b)] = .ok (.list ((allP b).map encP)) := by
  refine Ok.eq ?_
  unfold m_law_places b_law_places
  have hfl : ∀ i k, i < b.length → k < (cp b i).2.length → (plsAt b i k).length ≤ 100 := fun i k hi hk => by
    have h2 : (plsAt b i k).length = (par b i k).length := by simp [plsAt]
    have := g.par hi hk
    omega
  simp_arith [show encB b = .tuple (b.map encC) from rfl]
  refine for_ok (fun i e => ∃ x3 x4 x5 x6 x7 x8, i ≤ b.length ∧ e = [.val (.tuple (b.map encC)), .own (((List.range i).flatMap fun i => (List.range (cp b i).2.length).flatMap fun k => plsAt b i k).map encP), x3, x4, x5, x6, x7, x8]) ⟨_, _, _, _, _, _, Nat.zero_le _, rfl⟩ (fun i hi e he => ?_) fun e he => ?_
  · obtain ⟨x3, x4, x5, x6, x7, x8, hil, rfl⟩ := he
    have hi' : i < b.length := by rw [enumL_length, List.length_map] at hi; exact hi
    rw [enum_get, List.getElem_map, cp_eq hi']
    have hc := g.cp hi'
    have hl1 := over_len g _ hfl i hil
    have hb10 := g.most
    simp_arith [show encC (cp b i) = .tuple [.str (st (cp b i).1), .tuple ((cp b i).2.map encT)] from rfl]
    rw [flat_succ]
    generalize (List.range i).flatMap (fun i => (List.range (cp b i).2.length).flatMap fun k => plsAt b i k) = acc at hl1 ⊢
    refine for_ok (fun k e => ∃ x6 x7 x8, k ≤ (cp b i).2.length ∧ e = [.val (.tuple (b.map encC)), .own ((acc ++ (List.range k).flatMap fun k => plsAt b i k).map encP), .val (.int i), .val (.str (st (cp b i).1)), .val (.tuple ((cp b i).2.map encT)), x6, x7, x8]) ⟨x6, x7, x8, Nat.zero_le _, by simp⟩ (fun k hk e he => ?_) fun e he => ?_
    · obtain ⟨x6, x7, x8, hkl, rfl⟩ := he
      have hk' : k < (cp b i).2.length := by rw [enumL_length, List.length_map] at hk; exact hk
      have hp := g.par hi' hk'
      rw [enum_get, List.getElem_map, par_eq hk', flat_succ]
      have hl2 : ((List.range k).flatMap fun k => plsAt b i k).length ≤ k * 100 := flat_len k 100 _ fun j hj => hfl i j hi' (by omega)
      simp_arith [encT, st_len, show (par b i k).length ≤ 1000000 by omega, range_len]
      rw [range0, lcR_map (fun (s : Nat) => PyData.int (s : Int)) (fun s => encP (i, k, s)) _ (fun s hs => ⟨_, rfl, rfl, by walk_at "ev"; rfl⟩)]
      have hl3 := hfl i k hi' hk'
      have e1 : (List.range (par b i k).length).map (fun s => encP (i, k, s)) = (plsAt b i k).map encP := by
        unfold plsAt
        rw [List.map_map]; rfl
      rw [e1]
      simp_arith [show acc.length + ((List.range k).flatMap fun k => plsAt b i k).length + (plsAt b i k).length ≤ 1000000 by omega]
      exact ⟨_, .inl rfl, .val (.int k), .val (.str (st (par b i k))), x8, by omega, by simp only [List.map_append, List.append_assoc]⟩
    · obtain ⟨x6, x7, x8, hkl, rfl⟩ := he
      rw [enumL_length, List.length_map]
      exact ⟨_, .inl rfl, _, _, _, _, _, _, by omega, rfl⟩
  · obtain ⟨x3, x4, x5, x6, x7, x8, hil, rfl⟩ := he
    rw [enumL_length, List.length_map]
    walk_at "ev"
    rfl
theorem found_len {b : Bk} (g : WB b) (wd : List Nat) : (found b wd).length ≤ 10000 := by
  have hfl : ∀ i k, i < b.length → k < (cp b i).2.length → ((plsAt b i k).filter (atW b wd)).length ≤ 100 := fun i k hi hk => by
    have h1 := List.length_filter_le (atW b wd) (plsAt b i k)
    have h2 : (plsAt b i k).length = (par b i k).length := by simp [plsAt]
    have := g.par hi hk
    omega
  have := over_len g _ hfl b.length (Nat.le_refl _)
  have := g.most
  show ((List.range b.length).flatMap fun i => (List.range (cp b i).2.length).flatMap fun k => (plsAt b i k).filter (atW b wd)).length ≤ _
  omega
/-- the order of places -/
def ltP (p q : Pl) : Bool := HT.lexLt [(p.1 : Int), (p.2.1 : Int), (p.2.2 : Int)] [(q.1 : Int), (q.2.1 : Int), (q.2.2 : Int)]
theorem lt_P (p q : Pl) : ltD (encP p) (encP q) = .ok (.bool (ltP p q)) := rfl
theorem gt_P (p q : Pl) : gtA (encP p) (encP q) = .ok (.bool (ltP q p)) := rfl
def optP : Option Pl → PyData
  | some p => encP p
  | none => .none
theorem next_ok {b : Bk} (g : WB b) (wd : List Nat) (hw : wd.length ≤ 1000) (q : Pl) : m_next_one [.val (encB b), .val (.str (st wd)), .val (encP q)] = .ok (optP ((found b wd).filter fun p => ltP q p).head?) := by
  refine Ok.eq ?_
  unfold m_next_one b_next_one
  have hl := found_len g wd
  simp_arith [all_found_ok g wd hw, show (found b wd).length ≤ 1000000 by omega]
  rw [lcR_filter encP (fun p => ltP q p) encP _ (fun p hp => ⟨_, rfl, by simp_arith [gt_P], fun _ => rfl⟩)]
  generalize (found b wd).filter (fun p => ltP q p) = fs
  cases fs with
  | nil => simp_arith [List.map_nil, List.isEmpty_nil]; rfl
  | cons p r => simp_arith [List.map_cons, List.isEmpty_cons]; rfl
theorem last_ok {b : Bk} (g : WB b) (wd : List Nat) (hw : wd.length ≤ 1000) (q : Pl) : m_last_one [.val (encB b), .val (.str (st wd)), .val (encP q)] = .ok (optP ((found b wd).filter fun p => ltP p q).getLast?) := by
  refine Ok.eq ?_
  unfold m_last_one b_last_one
  have hl := found_len g wd
  simp_arith [all_found_ok g wd hw, show (found b wd).length ≤ 1000000 by omega]
  rw [lcR_filter encP (fun p => ltP p q) encP _ (fun p hp => ⟨_, rfl, by simp_arith [lt_P], fun _ => rfl⟩)]
  generalize (found b wd).filter (fun p => ltP p q) = fs
  by_cases h : fs = []
  · subst h; simp_arith [List.map_nil, List.isEmpty_nil]; rfl
  · have h' : fs.map encP ≠ [] := by simpa using h
    rw [List.getLast?_eq_some_getLast h]
    simp_arith [show (fs.map encP).isEmpty = false by simpa using h, atI_last _ h', List.getLast_map]
    rfl
theorem around_ok {b : Bk} {p : Pl} (v : VP b p) (hl : (par b p.1 p.2.1).length ≤ 1000) (m : Int) : m_around [.val (encB b), .val (encP p), .val (.int m)] = .ok (.str (cutS (st (par b p.1 p.2.1)) (some (if (p.2.2 : Int) - m > 0 then (p.2.2 : Int) - m else 0)) (some ((p.2.2 : Int) + m + 1)))) := by
  refine Ok.eq ?_
  unfold m_around b_around
  simp_arith [text_at_ok v, ix_P2, st_len, show (par b p.1 p.2.1).length ≤ 1000000 by omega]
theorem starts_ok (l wd : List Nat) (h : wd ≠ []) : Txt.startswith (st l) (st wd) = (l.take wd.length == wd) := by
  have h1 := TL.at_iff (x := st l) (y := st wd) (by exact h) 0
  have h2 : Txt.startswith (st l) (st wd) = true ↔ StrLaws.At (st l) (st wd) (st l).length 0 := by
    unfold Txt.startswith StrLaws.At
    rw [Bool.and_eq_true, decide_eq_true_eq]
  rw [Bool.eq_iff_iff, h2, h1]
  rfl
end LB

namespace LB
open PySem PySem.Spec PyProof.Rows L2 L3
local macro_rules | `(tactic| walk_at "ev") => `(tactic| simp only [ev_dVar, ev_dOwn, ev_dC, ev_d2, ev_d1, ev_dTest, ev_dChain, ev_dChain3, ev_dTr, ev_dNot, ev_dAnd, ev_dOr, ev_dAndV, ev_dOrV, ev_dNotV, ev_dIf, ev_oNone, ev_oSome, ev_dSlice, ev_dSlice3, ev_lNil, ev_lCons, ev_dTup, ev_dLst, ev_aNil, ev_aCons, ev_aScr, ev_dCall, ev_dScrLen, ev_dScrIx, ev_dSm1, ev_iItems1, ev_iRange1, ev_iRange2, ev_iRange3, ev_dPgLen, ev_sPgApp, ev_sPgPush, ev_sPgNil, ev_sPgNew, ev_sFreezeP, ev_sCallB, ev_dOrX, ev_dDctIx, ev_dDctGet, ev_dDctNin, ev_dDctKeys, ev_sDctNew, ev_sDctSet, ev_sDctOf, ev_iEnumD, ev_iZipD, ev_tTrue, ev_dLcx, ev_sNil, ev_sSeq, ev_sFreeze, ev_sAsg, ev_sPar, ev_sOwnL, ev_sAppend, ev_sExtend, ev_sRet, ev_sRetOwn, ev_sRetN, ev_sIf, ev_sDrop, ev_sWhile, ev_sFor, ev_sRaise, ev_dLm1, ev_dIsE, ev_dIsVE, ev_dNoneX, ev_aExc, ev_sMovE, ev_sTry, ev_gN_, ev_gTt, ev_gsC_, ev_gsN_, ev_seq_nx, ev_seq_rt, ev_seq_bk, ev_seq_ct, ev_lo_nx, ev_lo_rt, ev_lo_bk, ev_lo_ct, ev_out_nx, ev_out_rt, ev_den_, ev_guard_, ev_asBool_, ev_asInt_, ev_asStr_, ev_tr_none, ev_tr_bool, ev_tr_int, ev_tr_str, ev_tr_list, ev_tr_tuple, ev_add_ii, ev_add_ss, ev_add_tt, ev_add_ll, ev_sub_ii, ev_mul_ii, ev_mul_si, ev_mul_li, ev_mul_ti, ev_mod_ii, ev_div_ii, ev_neg_i, ev_eq_ss, ev_eq_ii, ev_ne_ss, ev_ne_ii, ev_lt_ii, ev_lt_ss, ev_le_ii, ev_le_ss, ev_ge_ii, ev_gt_ii, ev_is_bb, ev_isn_, ev_in_ss, ev_notIn_, ev_ix_l, ev_ix_t, ev_ix_s, ev_sl_l, ev_sl_t, ev_sl_s, ev_slS_l, ev_mkTup_, ev_mkLst_, ev_len_s, ev_len_l, ev_len_t, ev_int_i, ev_int_b, ev_tup_l, ev_tup_t, ev_lst_l, ev_lst_t, ev_sum_l, ev_all_l, ev_max1_l, ev_max2_, ev_min2_, ev_asList_, ev_clr_nx, ev_clr_rt, ev_tr_nx, ev_tr_rt, ev_seq_rb, ev_seq_ex, ev_lo_rb, ev_lo_ex, ev_outB_nx, ev_outB_rb, ev_outB_ex, ev_nxB_, ev_pgsOf_b, ev_bigOf_b, ev_bigOf_s, ev_putB_, ev_lastD_, ev_dctOf_b, ev_frP_, ev_countD_, ev_indexD_, ev_isTD_, ev_isTD2_, ev_items_l, ev_items_t, ev_items_s, ev_itS_l, ev_itS_t, ev_strip_, ev_join_, ev_split_, ev_starts_, ev_ends_, ev_opt_some, ev_opt_none, ev_noexc_ok, ev_lc_nil, ev_lc_cons, ev_for_nil, ev_wipe_nil, ev_wipe_cons, ev_fr_, ev_scr_, ev_isT_tuple_n, ev_isT_tuple_b, ev_isT_tuple_i, ev_isT_tuple_s, ev_isT_tuple_t, ev_isT_tuple_l, ev_isT_bool_n, ev_isT_bool_b, ev_isT_bool_i, ev_isT_bool_s, ev_isT_bool_t, ev_isT_bool_l, ev_isT_int_n, ev_isT_int_b, ev_isT_int_i, ev_isT_int_s, ev_isT_int_t, ev_isT_int_l, ev_isT_str_n, ev_isT_str_b, ev_isT_str_i, ev_isT_str_s, ev_isT_str_t, ev_isT_str_l, ev_isT_list_n, ev_isT_list_b, ev_isT_list_i, ev_isT_list_s, ev_isT_list_t, ev_isT_list_l, ev_is_nn, ev_is_bn, ev_is_in, ev_is_sn, ev_is_tn, ev_is_ln, BIG_eq, Ok_bind, Ok_ok, Ok_noexc, at_0, at_1, at_2, at_3, at_4, R.ok_bind, R.exc_bind, R.bad_bind, sget_cons_zero, sget_cons_succ, List.set_cons_zero, List.set_cons_succ, List.cons_append, List.nil_append, List.append_nil, List.length_cons, List.length_nil, List.replicate_succ, List.replicate_zero, ite_true, ite_false, Bool.not_true, Bool.not_false, Bool.false_eq_true, decide_eq_true_eq, Nat.zero_add, ↓reduceIte, Nat.reduceAdd, Int.reduceLT, Int.reduceLE, Int.reduceAdd, Int.reduceSub, Int.reduceMul, Int.reduceNeg, LIM_eq, Int.reduceAbs, Nat.reduceLT, true_or, or_true, true_and, and_true, Int.natAbs_natCast, Int.toNat_natCast, Nat.mul_zero, Nat.add_zero, Int.reduceToNat, List.flatten_nil, List.flatten_cons, List.length_append, List.length_map, Int.zero_add, ne_eq, not_false_eq_true, not_true_eq_false,  Nat.reduceSub, Nat.reduceLeDiff, Nat.reduceEqDiff, decide_true, decide_false, Bool.and_true, Bool.true_and, Bool.and_false, Bool.false_and, Bool.or_true, Bool.true_or, Bool.or_false, Bool.false_or])
local macro_rules | `(tactic| simp_arith [$xs,*]) => `(tactic| simp only [ev_dVar, ev_dOwn, ev_dC, ev_d2, ev_d1, ev_dTest, ev_dChain, ev_dChain3, ev_dTr, ev_dNot, ev_dAnd, ev_dOr, ev_dAndV, ev_dOrV, ev_dNotV, ev_dIf, ev_oNone, ev_oSome, ev_dSlice, ev_dSlice3, ev_lNil, ev_lCons, ev_dTup, ev_dLst, ev_aNil, ev_aCons, ev_aScr, ev_dCall, ev_dScrLen, ev_dScrIx, ev_dSm1, ev_iItems1, ev_iRange1, ev_iRange2, ev_iRange3, ev_dPgLen, ev_sPgApp, ev_sPgPush, ev_sPgNil, ev_sPgNew, ev_sFreezeP, ev_sCallB, ev_dOrX, ev_dDctIx, ev_dDctGet, ev_dDctNin, ev_dDctKeys, ev_sDctNew, ev_sDctSet, ev_sDctOf, ev_iEnumD, ev_iZipD, ev_tTrue, ev_dLcx, ev_sNil, ev_sSeq, ev_sFreeze, ev_sAsg, ev_sPar, ev_sOwnL, ev_sAppend, ev_sExtend, ev_sRet, ev_sRetOwn, ev_sRetN, ev_sIf, ev_sDrop, ev_sWhile, ev_sFor, ev_sRaise, ev_dLm1, ev_dIsE, ev_dIsVE, ev_dNoneX, ev_aExc, ev_sMovE, ev_sTry, ev_gN_, ev_gTt, ev_gsC_, ev_gsN_, ev_seq_nx, ev_seq_rt, ev_seq_bk, ev_seq_ct, ev_lo_nx, ev_lo_rt, ev_lo_bk, ev_lo_ct, ev_out_nx, ev_out_rt, ev_den_, ev_guard_, ev_asBool_, ev_asInt_, ev_asStr_, ev_tr_none, ev_tr_bool, ev_tr_int, ev_tr_str, ev_tr_list, ev_tr_tuple, ev_add_ii, ev_add_ss, ev_add_tt, ev_add_ll, ev_sub_ii, ev_mul_ii, ev_mul_si, ev_mul_li, ev_mul_ti, ev_mod_ii, ev_div_ii, ev_neg_i, ev_eq_ss, ev_eq_ii, ev_ne_ss, ev_ne_ii, ev_lt_ii, ev_lt_ss, ev_le_ii, ev_le_ss, ev_ge_ii, ev_gt_ii, ev_is_bb, ev_isn_, ev_in_ss, ev_notIn_, ev_ix_l, ev_ix_t, ev_ix_s, ev_sl_l, ev_sl_t, ev_sl_s, ev_slS_l, ev_mkTup_, ev_mkLst_, ev_len_s, ev_len_l, ev_len_t, ev_int_i, ev_int_b, ev_tup_l, ev_tup_t, ev_lst_l, ev_lst_t, ev_sum_l, ev_all_l, ev_max1_l, ev_max2_, ev_min2_, ev_asList_, ev_clr_nx, ev_clr_rt, ev_tr_nx, ev_tr_rt, ev_seq_rb, ev_seq_ex, ev_lo_rb, ev_lo_ex, ev_outB_nx, ev_outB_rb, ev_outB_ex, ev_nxB_, ev_pgsOf_b, ev_bigOf_b, ev_bigOf_s, ev_putB_, ev_lastD_, ev_dctOf_b, ev_frP_, ev_countD_, ev_indexD_, ev_isTD_, ev_isTD2_, ev_items_l, ev_items_t, ev_items_s, ev_itS_l, ev_itS_t, ev_strip_, ev_join_, ev_split_, ev_starts_, ev_ends_, ev_opt_some, ev_opt_none, ev_noexc_ok, ev_lc_nil, ev_lc_cons, ev_for_nil, ev_wipe_nil, ev_wipe_cons, ev_fr_, ev_scr_, ev_isT_tuple_n, ev_isT_tuple_b, ev_isT_tuple_i, ev_isT_tuple_s, ev_isT_tuple_t, ev_isT_tuple_l, ev_isT_bool_n, ev_isT_bool_b, ev_isT_bool_i, ev_isT_bool_s, ev_isT_bool_t, ev_isT_bool_l, ev_isT_int_n, ev_isT_int_b, ev_isT_int_i, ev_isT_int_s, ev_isT_int_t, ev_isT_int_l, ev_isT_str_n, ev_isT_str_b, ev_isT_str_i, ev_isT_str_s, ev_isT_str_t, ev_isT_str_l, ev_isT_list_n, ev_isT_list_b, ev_isT_list_i, ev_isT_list_s, ev_isT_list_t, ev_isT_list_l, ev_is_nn, ev_is_bn, ev_is_in, ev_is_sn, ev_is_tn, ev_is_ln, BIG_eq, Ok_bind, Ok_ok, Ok_noexc, at_0, at_1, at_2, at_3, at_4, R.ok_bind, R.exc_bind, R.bad_bind, sget_cons_zero, sget_cons_succ, List.set_cons_zero, List.set_cons_succ, List.cons_append, List.nil_append, List.append_nil, List.length_cons, List.length_nil, List.replicate_succ, List.replicate_zero, ite_true, ite_false, Bool.not_true, Bool.not_false, Bool.false_eq_true, decide_eq_true_eq, Nat.zero_add, ↓reduceIte, Nat.reduceAdd, Int.reduceLT, Int.reduceLE, Int.reduceAdd, Int.reduceSub, Int.reduceMul, Int.reduceNeg, LIM_eq, Int.reduceAbs, Nat.reduceLT, true_or, or_true, true_and, and_true, Int.natAbs_natCast, Int.toNat_natCast, Nat.mul_zero, Nat.add_zero, Int.reduceToNat, List.flatten_nil, List.flatten_cons, List.length_append, List.length_map, Int.zero_add, ne_eq, not_false_eq_true, not_true_eq_false,  Nat.reduceSub, Nat.reduceLeDiff, Nat.reduceEqDiff, decide_true, decide_false, Bool.and_true, Bool.true_and, Bool.and_false, Bool.false_and, Bool.or_true, Bool.true_or, Bool.or_false, Bool.false_or, $xs,*])
theorem sort_ints (ns : List Int) (h : ns.length ≤ 1000000) : sortedD (.list (ns.map PyData.int)) = .ok (.list ((ns.mergeSort (fun a b => decide (a ≤ b))).map PyData.int)) := by
  have h1 : sortOk (ns.map PyData.int) = true := by
    unfold sortOk
    rw [Bool.and_eq_true, Bool.and_eq_true, Bool.or_eq_true]
    refine ⟨⟨List.all_eq_true.mpr fun d hd => ?_, List.all_eq_true.mpr fun d hd => List.all_eq_true.mpr fun e he => ?_⟩, .inr (List.all_eq_true.mpr fun d hd => ?_)⟩
    · obtain ⟨n, _, rfl⟩ := List.mem_map.mp hd; rfl
    · obtain ⟨n, _, rfl⟩ := List.mem_map.mp hd
      obtain ⟨m, _, rfl⟩ := List.mem_map.mp he
      simp [PySem.W.alike]
    · obtain ⟨n, _, rfl⟩ := List.mem_map.mp hd; rfl
  show (if sortOk (ns.map PyData.int) = true ∧ (ns.map PyData.int).length ≤ BIG then R.ok (PyData.list _) else .bad) = _
  rw [if_pos ⟨h1, by rw [List.length_map]; exact h⟩]
  congr 2
  rw [List.map_mergeSort (s := PySem.W.dataLe false id)]
  intro a _ b _
  rw [PySem.W.dataLe_eq]
  show decide (a ≤ b) = !(PySem.W.dataLt (.int b) (.int a))
  rw [PySem.W.dataLt_int, PySem.W.not_lt_int]
theorem sort_two (a b : Int) : [a, b].mergeSort (fun a b => decide (a ≤ b)) = if a ≤ b then [a, b] else [b, a] := by
  refine PySem.W.os_sorted_one (b := if a ≤ b then [a, b] else [b, a]) ?_ ?_ ?_
  · refine (List.mergeSort_perm _ _).trans ?_
    split
    · exact List.Perm.refl _
    · exact List.Perm.swap _ _ _
  · have := List.pairwise_mergeSort (le := fun (a b : Int) => decide (a ≤ b)) (fun a b c h1 h2 => by rw [decide_eq_true_eq] at *; omega) (fun a b => by rw [Bool.or_eq_true, decide_eq_true_eq, decide_eq_true_eq]; omega) [a, b]
    exact this.imp fun h => of_decide_eq_true h
  · split
    · simp; assumption
    · simp; omega
theorem mem_plsAt {b : Bk} {i k : Nat} {p : Pl} (h : p ∈ plsAt b i k) : p.1 = i ∧ p.2.1 = k ∧ p.2.2 < (par b i k).length := by
  obtain ⟨s, hs, rfl⟩ := List.mem_map.mp h
  exact ⟨rfl, rfl, List.mem_range.mp hs⟩
theorem mem_allP {b : Bk} {p : Pl} (h : p ∈ allP b) : VP b p := by
  obtain ⟨i, hi, h1⟩ := List.mem_flatMap.mp h
  obtain ⟨k, hk, h2⟩ := List.mem_flatMap.mp h1
  obtain ⟨e1, e2, e3⟩ := mem_plsAt h2
  have hi := List.mem_range.mp hi
  have hk := List.mem_range.mp hk
  subst e1; subst e2
  exact ⟨hi, hk, e3⟩
theorem mem_all_of {b : Bk} {p : Pl} (v : VP b p) : p ∈ allP b :=
  List.mem_flatMap.mpr ⟨p.1, List.mem_range.mpr v.c, List.mem_flatMap.mpr ⟨p.2.1, List.mem_range.mpr v.k, List.mem_map.mpr ⟨p.2.2, List.mem_range.mpr v.s, rfl⟩⟩⟩
theorem take_snocL {α : Type} (l : List α) (j : Nat) (h : j < l.length) : l.take (j + 1) = l.take j ++ [l[j]] := (List.take_append_getElem h).symm
theorem plD_P (k : Nat) (ps : List Pl) (h : ps.length ≤ 1000000) : plD (k + 2) (.tuple (ps.map encP)) = true := by
  show (decide ((ps.map encP).length ≤ 1000000) && (ps.map encP).all (plD (k + 1))) = true
  rw [Bool.and_eq_true, List.length_map, decide_eq_true_eq, List.all_eq_true]
  refine ⟨h, fun d hd => ?_⟩
  obtain ⟨p, _, rfl⟩ := List.mem_map.mp hd
  cases k <;> rfl
theorem plD_opt (k : Nat) (o : Option Pl) : plD (k + 1) (optP o) = true := by
  cases o with
  | none => rfl
  | some p => cases k <;> rfl
theorem at_head (ps : List Pl) : atI (ps.map encP ++ [.none]) 0 = some (optP ps.head?) := by
  cases ps with
  | nil => exact at_0 _ _
  | cons p r => exact at_0 _ _
theorem at_last (ps : List Pl) : atI (PyData.none :: ps.map encP) (-1) = some (optP ps.getLast?) := by
  rw [atI_last _ (by simp)]
  by_cases h : ps = []
  · subst h; rfl
  · rw [List.getLast_cons (by simpa using h), List.getLast_map, List.getLast?_eq_some_getLast h]; rfl
theorem sorted_02 (x : Int) : sortedD (.list [.int 0, .int x]) = .ok (.list (if 0 ≤ x then [.int 0, .int x] else [.int x, .int 0])) := by
  have := sort_ints [0, x] (by simp)
  rw [sort_two] at this
  rw [show ([PyData.int 0, .int x]) = [0, x].map PyData.int from rfl, this]
  split <;> rfl
end LB

namespace LB
open PySem PySem.Spec PyProof.Rows L2 L3
local macro_rules | `(tactic| walk_at "ev") => `(tactic| simp only [ev_dVar, ev_dOwn, ev_dC, ev_d2, ev_d1, ev_dTest, ev_dChain, ev_dChain3, ev_dTr, ev_dNot, ev_dAnd, ev_dOr, ev_dAndV, ev_dOrV, ev_dNotV, ev_dIf, ev_oNone, ev_oSome, ev_dSlice, ev_dSlice3, ev_lNil, ev_lCons, ev_dTup, ev_dLst, ev_aNil, ev_aCons, ev_aScr, ev_dCall, ev_dScrLen, ev_dScrIx, ev_dSm1, ev_iItems1, ev_iRange1, ev_iRange2, ev_iRange3, ev_dPgLen, ev_sPgApp, ev_sPgPush, ev_sPgNil, ev_sPgNew, ev_sFreezeP, ev_sCallB, ev_dOrX, ev_dDctIx, ev_dDctGet, ev_dDctNin, ev_dDctKeys, ev_sDctNew, ev_sDctSet, ev_sDctOf, ev_iEnumD, ev_iZipD, ev_tTrue, ev_dLcx, ev_sNil, ev_sSeq, ev_sFreeze, ev_sAsg, ev_sPar, ev_sOwnL, ev_sAppend, ev_sExtend, ev_sRet, ev_sRetOwn, ev_sRetN, ev_sIf, ev_sDrop, ev_sWhile, ev_sFor, ev_sRaise, ev_dLm1, ev_dIsE, ev_dIsVE, ev_dNoneX, ev_aExc, ev_sMovE, ev_sTry, ev_gN_, ev_gTt, ev_gsC_, ev_gsN_, ev_seq_nx, ev_seq_rt, ev_seq_bk, ev_seq_ct, ev_lo_nx, ev_lo_rt, ev_lo_bk, ev_lo_ct, ev_out_nx, ev_out_rt, ev_den_, ev_guard_, ev_asBool_, ev_asInt_, ev_asStr_, ev_tr_none, ev_tr_bool, ev_tr_int, ev_tr_str, ev_tr_list, ev_tr_tuple, ev_add_ii, ev_add_ss, ev_add_tt, ev_add_ll, ev_sub_ii, ev_mul_ii, ev_mul_si, ev_mul_li, ev_mul_ti, ev_mod_ii, ev_div_ii, ev_neg_i, ev_eq_ss, ev_eq_ii, ev_ne_ss, ev_ne_ii, ev_lt_ii, ev_lt_ss, ev_le_ii, ev_le_ss, ev_ge_ii, ev_gt_ii, ev_is_bb, ev_isn_, ev_in_ss, ev_notIn_, ev_ix_l, ev_ix_t, ev_ix_s, ev_sl_l, ev_sl_t, ev_sl_s, ev_slS_l, ev_mkTup_, ev_mkLst_, ev_len_s, ev_len_l, ev_len_t, ev_int_i, ev_int_b, ev_tup_l, ev_tup_t, ev_lst_l, ev_lst_t, ev_sum_l, ev_all_l, ev_max1_l, ev_max2_, ev_min2_, ev_asList_, ev_clr_nx, ev_clr_rt, ev_tr_nx, ev_tr_rt, ev_seq_rb, ev_seq_ex, ev_lo_rb, ev_lo_ex, ev_outB_nx, ev_outB_rb, ev_outB_ex, ev_nxB_, ev_pgsOf_b, ev_bigOf_b, ev_bigOf_s, ev_putB_, ev_lastD_, ev_dctOf_b, ev_frP_, ev_countD_, ev_indexD_, ev_isTD_, ev_isTD2_, ev_items_l, ev_items_t, ev_items_s, ev_itS_l, ev_itS_t, ev_strip_, ev_join_, ev_split_, ev_starts_, ev_ends_, ev_opt_some, ev_opt_none, ev_noexc_ok, ev_lc_nil, ev_lc_cons, ev_for_nil, ev_wipe_nil, ev_wipe_cons, ev_fr_, ev_scr_, ev_isT_tuple_n, ev_isT_tuple_b, ev_isT_tuple_i, ev_isT_tuple_s, ev_isT_tuple_t, ev_isT_tuple_l, ev_isT_bool_n, ev_isT_bool_b, ev_isT_bool_i, ev_isT_bool_s, ev_isT_bool_t, ev_isT_bool_l, ev_isT_int_n, ev_isT_int_b, ev_isT_int_i, ev_isT_int_s, ev_isT_int_t, ev_isT_int_l, ev_isT_str_n, ev_isT_str_b, ev_isT_str_i, ev_isT_str_s, ev_isT_str_t, ev_isT_str_l, ev_isT_list_n, ev_isT_list_b, ev_isT_list_i, ev_isT_list_s, ev_isT_list_t, ev_isT_list_l, ev_is_nn, ev_is_bn, ev_is_in, ev_is_sn, ev_is_tn, ev_is_ln, BIG_eq, Ok_bind, Ok_ok, Ok_noexc, at_0, at_1, at_2, at_3, at_4, R.ok_bind, R.exc_bind, R.bad_bind, sget_cons_zero, sget_cons_succ, List.set_cons_zero, List.set_cons_succ, List.cons_append, List.nil_append, List.append_nil, List.length_cons, List.length_nil, List.replicate_succ, List.replicate_zero, ite_true, ite_false, Bool.not_true, Bool.not_false, Bool.false_eq_true, decide_eq_true_eq, Nat.zero_add, ↓reduceIte, Nat.reduceAdd, Int.reduceLT, Int.reduceLE, Int.reduceAdd, Int.reduceSub, Int.reduceMul, Int.reduceNeg, LIM_eq, Int.reduceAbs, Nat.reduceLT, true_or, or_true, true_and, and_true, Int.natAbs_natCast, Int.toNat_natCast, Nat.mul_zero, Nat.add_zero, Int.reduceToNat, List.flatten_nil, List.flatten_cons, List.length_append, List.length_map, Int.zero_add, ne_eq, not_false_eq_true, not_true_eq_false,  Nat.reduceSub, Nat.reduceLeDiff, Nat.reduceEqDiff, decide_true, decide_false, Bool.and_true, Bool.true_and, Bool.and_false, Bool.false_and, Bool.or_true, Bool.true_or, Bool.or_false, Bool.false_or])
local macro_rules | `(tactic| simp_arith [$xs,*]) => `(tactic| simp only [ev_dVar, ev_dOwn, ev_dC, ev_d2, ev_d1, ev_dTest, ev_dChain, ev_dChain3, ev_dTr, ev_dNot, ev_dAnd, ev_dOr, ev_dAndV, ev_dOrV, ev_dNotV, ev_dIf, ev_oNone, ev_oSome, ev_dSlice, ev_dSlice3, ev_lNil, ev_lCons, ev_dTup, ev_dLst, ev_aNil, ev_aCons, ev_aScr, ev_dCall, ev_dScrLen, ev_dScrIx, ev_dSm1, ev_iItems1, ev_iRange1, ev_iRange2, ev_iRange3, ev_dPgLen, ev_sPgApp, ev_sPgPush, ev_sPgNil, ev_sPgNew, ev_sFreezeP, ev_sCallB, ev_dOrX, ev_dDctIx, ev_dDctGet, ev_dDctNin, ev_dDctKeys, ev_sDctNew, ev_sDctSet, ev_sDctOf, ev_iEnumD, ev_iZipD, ev_tTrue, ev_dLcx, ev_sNil, ev_sSeq, ev_sFreeze, ev_sAsg, ev_sPar, ev_sOwnL, ev_sAppend, ev_sExtend, ev_sRet, ev_sRetOwn, ev_sRetN, ev_sIf, ev_sDrop, ev_sWhile, ev_sFor, ev_sRaise, ev_dLm1, ev_dIsE, ev_dIsVE, ev_dNoneX, ev_aExc, ev_sMovE, ev_sTry, ev_gN_, ev_gTt, ev_gsC_, ev_gsN_, ev_seq_nx, ev_seq_rt, ev_seq_bk, ev_seq_ct, ev_lo_nx, ev_lo_rt, ev_lo_bk, ev_lo_ct, ev_out_nx, ev_out_rt, ev_den_, ev_guard_, ev_asBool_, ev_asInt_, ev_asStr_, ev_tr_none, ev_tr_bool, ev_tr_int, ev_tr_str, ev_tr_list, ev_tr_tuple, ev_add_ii, ev_add_ss, ev_add_tt, ev_add_ll, ev_sub_ii, ev_mul_ii, ev_mul_si, ev_mul_li, ev_mul_ti, ev_mod_ii, ev_div_ii, ev_neg_i, ev_eq_ss, ev_eq_ii, ev_ne_ss, ev_ne_ii, ev_lt_ii, ev_lt_ss, ev_le_ii, ev_le_ss, ev_ge_ii, ev_gt_ii, ev_is_bb, ev_isn_, ev_in_ss, ev_notIn_, ev_ix_l, ev_ix_t, ev_ix_s, ev_sl_l, ev_sl_t, ev_sl_s, ev_slS_l, ev_mkTup_, ev_mkLst_, ev_len_s, ev_len_l, ev_len_t, ev_int_i, ev_int_b, ev_tup_l, ev_tup_t, ev_lst_l, ev_lst_t, ev_sum_l, ev_all_l, ev_max1_l, ev_max2_, ev_min2_, ev_asList_, ev_clr_nx, ev_clr_rt, ev_tr_nx, ev_tr_rt, ev_seq_rb, ev_seq_ex, ev_lo_rb, ev_lo_ex, ev_outB_nx, ev_outB_rb, ev_outB_ex, ev_nxB_, ev_pgsOf_b, ev_bigOf_b, ev_bigOf_s, ev_putB_, ev_lastD_, ev_dctOf_b, ev_frP_, ev_countD_, ev_indexD_, ev_isTD_, ev_isTD2_, ev_items_l, ev_items_t, ev_items_s, ev_itS_l, ev_itS_t, ev_strip_, ev_join_, ev_split_, ev_starts_, ev_ends_, ev_opt_some, ev_opt_none, ev_noexc_ok, ev_lc_nil, ev_lc_cons, ev_for_nil, ev_wipe_nil, ev_wipe_cons, ev_fr_, ev_scr_, ev_isT_tuple_n, ev_isT_tuple_b, ev_isT_tuple_i, ev_isT_tuple_s, ev_isT_tuple_t, ev_isT_tuple_l, ev_isT_bool_n, ev_isT_bool_b, ev_isT_bool_i, ev_isT_bool_s, ev_isT_bool_t, ev_isT_bool_l, ev_isT_int_n, ev_isT_int_b, ev_isT_int_i, ev_isT_int_s, ev_isT_int_t, ev_isT_int_l, ev_isT_str_n, ev_isT_str_b, ev_isT_str_i, ev_isT_str_s, ev_isT_str_t, ev_isT_str_l, ev_isT_list_n, ev_isT_list_b, ev_isT_list_i, ev_isT_list_s, ev_isT_list_t, ev_isT_list_l, ev_is_nn, ev_is_bn, ev_is_in, ev_is_sn, ev_is_tn, ev_is_ln, BIG_eq, Ok_bind, Ok_ok, Ok_noexc, at_0, at_1, at_2, at_3, at_4, R.ok_bind, R.exc_bind, R.bad_bind, sget_cons_zero, sget_cons_succ, List.set_cons_zero, List.set_cons_succ, List.cons_append, List.nil_append, List.append_nil, List.length_cons, List.length_nil, List.replicate_succ, List.replicate_zero, ite_true, ite_false, Bool.not_true, Bool.not_false, Bool.false_eq_true, decide_eq_true_eq, Nat.zero_add, ↓reduceIte, Nat.reduceAdd, Int.reduceLT, Int.reduceLE, Int.reduceAdd, Int.reduceSub, Int.reduceMul, Int.reduceNeg, LIM_eq, Int.reduceAbs, Nat.reduceLT, true_or, or_true, true_and, and_true, Int.natAbs_natCast, Int.toNat_natCast, Nat.mul_zero, Nat.add_zero, Int.reduceToNat, List.flatten_nil, List.flatten_cons, List.length_append, List.length_map, Int.zero_add, ne_eq, not_false_eq_true, not_true_eq_false,  Nat.reduceSub, Nat.reduceLeDiff, Nat.reduceEqDiff, decide_true, decide_false, Bool.and_true, Bool.true_and, Bool.and_false, Bool.false_and, Bool.or_true, Bool.true_or, Bool.or_false, Bool.false_or, $xs,*])
/-! ### is it a text -/
def okS (c : Nat) : Bool := decide (32 ≤ c) && decide (c ≤ 126)
def isT (l : List Nat) : Bool := decide (1 ≤ l.length) && decide (l.length ≤ 60) && l.all okS && (trim l == l) && !(subIs (st [32, 32]) (st l))
theorem le_one (a b : Nat) {_ : Decidable (([b] : List Nat) < [a])} : (!decide (([b] : List Nat) < [a])) = decide (a ≤ b) := by
  rw [Bool.eq_iff_iff, Bool.not_eq_true', decide_eq_false_iff_not, decide_eq_true_eq]
  constructor
  · intro h
    rcases Nat.lt_or_ge b a with q | q
    · exact (h (List.Lex.rel q)).elim
    · exact q
  · intro h q
    cases q with
    | rel q => omega
    | cons q => cases q
theorem le_ss1 (a b : Nat) : leD (.str (st [a])) (.str (st [b])) = .ok (.bool (decide (a ≤ b))) := by
  rw [ev_le_ss]
  congr 2
  exact le_one a b
theorem sub_two (l : List Nat) : subIs (st [32, 32]) (st l) = true ↔ ∃ i : Nat, l[i]? = some 32 ∧ l[i + 1]? = some 32 := by
  unfold subIs
  rw [StrLaws.found_iff]
  constructor
  · rintro ⟨i, h1, h2⟩
    refine ⟨i, ?_⟩
    rw [StrLaws.subAt_eq] at h2
    have e : List.take 2 (l.drop i) = [32, 32] := eq_of_beq h2
    have h0 : (List.take 2 (l.drop i))[0]? = some 32 := by rw [e]; rfl
    have h1' : (List.take 2 (l.drop i))[1]? = some 32 := by rw [e]; rfl
    rw [List.getElem?_take_of_lt (by decide), List.getElem?_drop] at h0 h1'
    exact ⟨h0, h1'⟩
  · rintro ⟨i, h1, h2⟩
    have hl : i + 1 < l.length := by
      rcases Nat.lt_or_ge (i + 1) l.length with q | q
      · exact q
      · rw [List.getElem?_eq_none q] at h2; cases h2
    refine ⟨i, by rw [st_len, st_len]; show i + 2 ≤ _; omega, ?_⟩
    rw [StrLaws.subAt_eq]
    show (List.take 2 (l.drop i) == [32, 32]) = true
    rw [List.drop_eq_getElem_cons (show i < l.length by omega), List.drop_eq_getElem_cons hl]
    rw [List.getElem?_eq_getElem (by omega)] at h1 h2
    rw [Option.some.inj h1, Option.some.inj h2]; rfl
theorem isT_iff (l : List Nat) : LB.isT l = true ↔ GT l := by
  unfold LB.isT
  rw [Bool.and_eq_true, Bool.and_eq_true, Bool.and_eq_true, Bool.and_eq_true, decide_eq_true_eq, decide_eq_true_eq, List.all_eq_true, beq_iff_eq, trim_eq_iff, Bool.not_eq_true']
  constructor
  · rintro ⟨⟨⟨⟨h1, h2⟩, h3⟩, h4, h5⟩, h6⟩
    refine ⟨h1, h2, fun c hc => ?_, h4, h5, fun i a b => ?_⟩
    · have := h3 c hc
      unfold okS at this
      rw [Bool.and_eq_true, decide_eq_true_eq, decide_eq_true_eq] at this
      exact this
    · have := (sub_two l).mpr ⟨i, a, b⟩
      rw [h6] at this; cases this
  · intro g
    refine ⟨⟨⟨⟨g.one, g.most⟩, fun c hc => ?_⟩, g.fst, g.lst⟩, ?_⟩
    · unfold okS
      rw [Bool.and_eq_true, decide_eq_true_eq, decide_eq_true_eq]
      exact g.sign c hc
    · cases e : subIs (st [32, 32]) (st l) with
      | false => rfl
      | true => obtain ⟨i, a, b⟩ := (sub_two l).mp e; exact (g.dbl i a b).elim
theorem lit_t : Str.ofString "~" = st [126] := by rfl
theorem signs_map (l : List Nat) : signsD (st l) = l.map fun c => PyData.str (st [c]) := rfl
theorem is_text_ok (l : List Nat) (h : l.length ≤ 100000) : m_is_text [.val (.str (st l))] = .ok (.bool (LB.isT l)) := by
  refine Ok.eq ?_
  unfold m_is_text b_is_text LB.isT
  by_cases h1 : 1 ≤ l.length
  · by_cases h2 : l.length ≤ 60
    · simp_arith [st_len, show l.length ≤ 1000000 by omega, show (1 : Int) ≤ (l.length : Int) by omega, show (l.length : Int) ≤ 60 by omega, signs_map]
      rw [lcR_map (fun c => PyData.str (st [c])) (fun c => PyData.bool (okS c)) l (fun c hc => by
        refine ⟨_, rfl, rfl, ?_⟩
        simp_arith [-ev_le_ss, lit_b, lit_t, le_ss1]
        unfold okS
        by_cases q : 32 ≤ c
        · simp_arith [q]
        · simp_arith [q])]
      simp_arith [bools_map okS l, show (l.map okS).all id = l.all okS by rw [List.all_map]; rfl]
      by_cases h3 : l.all okS = true
      · simp_arith [h3, h1, h2, lit_b, lit_bb, st_len, show l.length ≤ 1000000 by omega, st_strip, st_beq]
        rw [show (l == trim l) = (trim l == l) by rw [Bool.eq_iff_iff, beq_iff_eq, beq_iff_eq, eq_comm]]
        by_cases h4 : (trim l == l) = true
        · simp_arith [h4]
        · simp_arith [Bool.eq_false_iff.mpr h4]
      · simp_arith [Bool.eq_false_iff.mpr h3]
    · simp_arith [st_len, show l.length ≤ 1000000 by omega, show (1 : Int) ≤ (l.length : Int) by omega, show ¬ (l.length : Int) ≤ 60 by omega, h1, h2]
  · simp_arith [st_len, show l.length ≤ 1000000 by omega, show ¬ (1 : Int) ≤ (l.length : Int) by omega, h1]
theorem all_true {α : Type} (xs : List α) : (xs.map fun _ => true).all id = true := by
  rw [List.all_eq_true]
  intro b hb
  obtain ⟨_, _, rfl⟩ := List.mem_map.mp hb
  rfl
theorem is_chapter_ok {c : Chp} (g : GC c) : m_is_chapter [.val (encC c)] = .ok (.bool true) := by
  refine Ok.eq ?_
  unfold m_is_chapter b_is_chapter
  have g1 := g.title.most
  have g2 := g.one
  have g3 := g.most
  simp_arith [show encC c = .tuple [.str (st c.1), .tuple (c.2.map encT)] from rfl, is_text_ok c.1 (by omega), (isT_iff c.1).mpr g.title, show ((2 : Nat) : Int) = 2 from rfl, beq_self_eq_true, show (1 : Int) ≤ (c.2.length : Int) by omega, show (c.2.length : Int) ≤ 4 by omega, show c.2.length ≤ 1000000 by omega]
  rw [lcR_map encT (fun _ => PyData.bool true) c.2 (fun t ht => by
    have gt := g.pars t ht
    have := gt.most
    exact ⟨_, rfl, rfl, by simp_arith [encT, is_text_ok t (by omega), (isT_iff t).mpr gt]⟩)]
  simp_arith [bools_map (fun _ => true) c.2, all_true]
theorem is_book_ok {b : Bk} (g : GB b) : m_is_book [.val (encB b)] = .ok (.bool true) := by
  refine Ok.eq ?_
  unfold m_is_book b_is_book
  have g2 := g.one
  have g3 := g.most
  simp_arith [show encB b = .tuple (b.map encC) from rfl, show (1 : Int) ≤ (b.length : Int) by omega, show (b.length : Int) ≤ 3 by omega, show b.length ≤ 1000000 by omega]
  rw [lcR_map encC (fun _ => PyData.bool true) b (fun c hc => ⟨_, rfl, rfl, by simp_arith [is_chapter_ok (g.chaps c hc)]⟩)]
  simp_arith [bools_map (fun _ => true) b, all_true]
/-! ### editions -/
structure Ed where
  c : Nat
  k : Nat
  b : Nat
  e : Nat
  t : List Nat
def encE (d : Ed) : PyData := .tuple [.int d.c, .int d.k, .int d.b, .int d.e, .str (st d.t)]
def newT (bk : Bk) (d : Ed) : List Nat := (par bk d.c d.k).take d.b ++ d.t ++ (par bk d.c d.k).drop d.e
/-- it names a part of a paragraph -/
structure PE0 (bk : Bk) (d : Ed) : Prop where
  c : d.c < bk.length
  k : d.k < (cp bk d.c).2.length
  be : d.b ≤ d.e
  e : d.e ≤ (par bk d.c d.k).length
structure GE (bk : Bk) (d : Ed) : Prop extends PE0 bk d where
  good : GT (newT bk d)
theorem GE.tlen {bk : Bk} {d : Ed} (g : GE bk d) : d.t.length ≤ 60 := by
  have := g.good.most
  unfold newT at this
  rw [List.length_append, List.length_append] at this
  omega
theorem max0 (n : Nat) : (if (0 : Int) > (n : Int) then (0 : Int) else (n : Int)) = (n : Int) := if_neg (by omega)
theorem new_text_ok {bk : Bk} (w : WB bk) {d : Ed} (p : PE0 bk d) (ht : d.t.length ≤ 1000) : m_new_text [.val (encB bk), .val (encE d)] = if LB.isT (newT bk d) = true then .ok (.str (st (newT bk d))) else .exc "BadEdition" := by
  unfold m_new_text b_new_text
  have hc := p.c
  have hk := p.k
  have hbe := p.be
  have he := p.e
  have hp := w.par hc hk
  have hb := w.most
  have hcl := w.cp hc
  have l1 : ((par bk d.c d.k).take d.b).length = d.b := by rw [List.length_take]; omega
  have l2 : ((par bk d.c d.k).drop d.e).length = (par bk d.c d.k).length - d.e := List.length_drop
  simp_arith [show encE d = .tuple [.int d.c, .int d.k, .int d.b, .int d.e, .str (st d.t)] from rfl, show (5 : Nat) = 5 from rfl, len_B, show (0 : Int) ≤ (d.c : Int) by omega, show (d.c : Int) < (bk.length : Int) by omega, ix_B hc, ix_C1, show (0 : Int) ≤ (d.k : Int) by omega, show (d.k : Int) < ((cp bk d.c).2.length : Int) by omega, ix_T hk, max0, st_len, show (par bk d.c d.k).length ≤ 1000000 by omega, st_cut, cut_to, cut_from, st_app, l1, l2, show d.b + d.t.length ≤ 1000000 by omega, show d.b + d.t.length + ((par bk d.c d.k).length - d.e) ≤ 1000000 by omega, show (0 : Int) ≤ (d.b : Int) by omega, show (d.b : Int) ≤ (d.e : Int) by omega, show (d.e : Int) ≤ ((par bk d.c d.k).length : Int) by omega]
  have hl : (newT bk d).length ≤ 100000 := by
    unfold newT
    rw [List.length_append, List.length_append, l1, l2]; omega
  rw [show (par bk d.c d.k).take d.b ++ d.t ++ (par bk d.c d.k).drop d.e = newT bk d from rfl, is_text_ok _ hl]
  by_cases h : LB.isT (newT bk d) = true
  · simp_arith [h]
  · simp_arith [Bool.eq_false_iff.mpr h]
theorem new_text_good {bk : Bk} (w : WB bk) {d : Ed} (g : GE bk d) : m_new_text [.val (encB bk), .val (encE d)] = .ok (.str (st (newT bk d))) := by
  rw [new_text_ok w g.toPE0 (by have := g.tlen; omega), if_pos ((isT_iff _).mpr g.good)]
def setP (bk : Bk) (c k : Nat) (t : List Nat) : Bk := bk.set c ((cp bk c).1, (cp bk c).2.set k t)
theorem cut_set {α : Type} (l : List α) (k : Nat) (x : α) (h : k < l.length) : l.take k ++ [x] ++ l.drop (k + 1) = l.set k x := by
  rw [List.set_eq_take_append_cons_drop, if_pos h]; simp
theorem done_ok {bk : Bk} (w : WB bk) {d : Ed} (g : GE bk d) : m_done [.val (encB bk), .val (encE d)] = .ok (encB (setP bk d.c d.k (newT bk d))) := by
  refine Ok.eq ?_
  unfold m_done b_done
  have hc := g.c
  have hk := g.k
  have hb := w.most
  have hcl := w.cp hc
  have e2 : cutD [PyData.int d.c, .int d.k, .int d.b, .int d.e, .str (st d.t)] none (some 2) = [.int d.c, .int d.k] := rfl
  have cs := cut_set ((cp bk d.c).2.map encT) d.k (encT (newT bk d)) (by simpa using hk)
  have cs2 := cut_set (bk.map encC) d.c (encC ((cp bk d.c).1, (cp bk d.c).2.set d.k (newT bk d))) (by simpa using hc)
  have q1 : (((cp bk d.c).2.map encT).take d.k).length = d.k := by rw [List.length_take, List.length_map]; omega
  have q2 : (((cp bk d.c).2.map encT).drop (d.k + 1)).length = (cp bk d.c).2.length - (d.k + 1) := by rw [List.length_drop, List.length_map]
  have q3 : ((bk.map encC).take d.c).length = d.c := by rw [List.length_take, List.length_map]; omega
  have q4 : ((bk.map encC).drop (d.c + 1)).length = bk.length - (d.c + 1) := by rw [List.length_drop, List.length_map]
  have hn := new_text_good w g
  rw [show encE d = .tuple [.int d.c, .int d.k, .int d.b, .int d.e, .str (st d.t)] from rfl] at hn
  have slB : ∀ lo hi, sliceD (encB bk) lo hi = .ok (.tuple (cutD (bk.map encC) lo hi)) := fun _ _ => rfl
  have cf1 : cutD ((cp bk d.c).2.map encT) (some ((d.k : Int) + 1)) none = ((cp bk d.c).2.map encT).drop (d.k + 1) := cut_from _ (d.k + 1)
  have cf2 : cutD (bk.map encC) (some ((d.c : Int) + 1)) none = (bk.map encC).drop (d.c + 1) := cut_from _ (d.c + 1)
  simp_arith [show encE d = .tuple [.int d.c, .int d.k, .int d.b, .int d.e, .str (st d.t)] from rfl, hn, e2, ix_B hc, show encC (cp bk d.c) = .tuple [.str (st (cp bk d.c).1), .tuple ((cp bk d.c).2.map encT)] from rfl, cut_to, slB, cf1, cf2, q1, q2, q3, q4, show d.k ≤ 999999 by omega, show d.c ≤ 999999 by omega, show d.k + 1 + ((cp bk d.c).2.length - (d.k + 1)) ≤ 1000000 by omega, show d.c + 1 + (bk.length - (d.c + 1)) ≤ 1000000 by omega]
  rw [show PyData.str (st (newT bk d)) = encT (newT bk d) from rfl, cs, ← List.map_set]
  rw [show PyData.tuple [.str (st (cp bk d.c).1), .tuple (((cp bk d.c).2.set d.k (newT bk d)).map encT)] = encC ((cp bk d.c).1, (cp bk d.c).2.set d.k (newT bk d)) from rfl, cs2, ← List.map_set]
  rfl
theorem cp_setP {bk : Bk} {c k : Nat} {t : List Nat} (hc : c < bk.length) (i : Nat) : cp (setP bk c k t) i = if i = c then ((cp bk c).1, (cp bk c).2.set k t) else cp bk i := by
  unfold cp setP
  rw [List.getD_eq_getElem?_getD, List.getElem?_set]
  by_cases h : i = c
  · subst h
    rw [if_pos rfl, if_pos hc, if_pos rfl]; rfl
  · rw [if_neg (fun e => h e.symm), if_neg h, List.getD_eq_getElem?_getD]
theorem len_setP (bk : Bk) (c k : Nat) (t : List Nat) : (setP bk c k t).length = bk.length := List.length_set
theorem cpl_setP {bk : Bk} {c k : Nat} {t : List Nat} (hc : c < bk.length) (i : Nat) : (cp (setP bk c k t) i).2.length = (cp bk i).2.length := by
  rw [cp_setP hc]
  split
  · rename_i h; subst h; exact List.length_set
  · rfl
theorem par_setP {bk : Bk} {c k : Nat} {t : List Nat} (hc : c < bk.length) (hk : k < (cp bk c).2.length) (i j : Nat) : par (setP bk c k t) i j = if i = c ∧ j = k then t else par bk i j := by
  unfold par
  rw [cp_setP hc]
  by_cases h : i = c
  · subst h
    rw [if_pos rfl]
    show (((cp bk i).2.set k t).getD j []) = _
    rw [List.getD_eq_getElem?_getD, List.getElem?_set]
    by_cases h2 : j = k
    · subst h2
      rw [if_pos rfl, if_pos hk, if_pos ⟨rfl, rfl⟩]; rfl
    · rw [if_neg (fun e => h2 e.symm), if_neg (fun e => h2 e.2), List.getD_eq_getElem?_getD]
  · rw [if_neg h, if_neg (fun e => h e.1)]
theorem setP_same {bk : Bk} {c k : Nat} (hc : c < bk.length) (hk : k < (cp bk c).2.length) : setP bk c k (par bk c k) = bk := by
  unfold setP
  have h1 : (cp bk c).2.set k (par bk c k) = (cp bk c).2 := by
    rw [← par_eq hk]; exact List.set_getElem_self _
  rw [h1]
  show bk.set c (cp bk c) = bk
  rw [← cp_eq hc]; exact List.set_getElem_self _
theorem setP_setP {bk : Bk} {c k : Nat} (t u : List Nat) (hc : c < bk.length) : setP (setP bk c k t) c k u = setP bk c k u := by
  unfold setP
  have h1 : cp (bk.set c ((cp bk c).1, (cp bk c).2.set k t)) c = ((cp bk c).1, (cp bk c).2.set k t) := by
    have := cp_setP (k := k) (t := t) hc c
    rw [if_pos rfl] at this
    exact this
  rw [h1, List.set_set, List.set_set]
theorem setP_comm {bk : Bk} {c k c' k' : Nat} (t u : List Nat) (hc : c < bk.length) (hc' : c' < bk.length) (h : ¬ (c = c' ∧ k = k')) : setP (setP bk c k t) c' k' u = setP (setP bk c' k' u) c k t := by
  by_cases e : c = c'
  · subst e
    have hk : k ≠ k' := fun z => h ⟨rfl, z⟩
    unfold setP
    have h1 : cp (bk.set c ((cp bk c).1, (cp bk c).2.set k t)) c = ((cp bk c).1, (cp bk c).2.set k t) := by
      have := cp_setP (k := k) (t := t) hc c
      rw [if_pos rfl] at this
      exact this
    have h2 : cp (bk.set c ((cp bk c).1, (cp bk c).2.set k' u)) c = ((cp bk c).1, (cp bk c).2.set k' u) := by
      have := cp_setP (k := k') (t := u) hc c
      rw [if_pos rfl] at this
      exact this
    rw [h1, h2, List.set_set, List.set_set, List.set_comm _ _ hk]
  · have h1 := cp_setP (k := k) (t := t) hc c'
    have h2 := cp_setP (k := k') (t := u) hc' c
    rw [if_neg (fun z => e z.symm)] at h1
    rw [if_neg e] at h2
    have e1 : setP (setP bk c k t) c' k' u = (setP bk c k t).set c' ((cp (setP bk c k t) c').1, (cp (setP bk c k t) c').2.set k' u) := rfl
    have e2 : setP (setP bk c' k' u) c k t = (setP bk c' k' u).set c ((cp (setP bk c' k' u) c).1, (cp (setP bk c' k' u) c).2.set k t) := rfl
    rw [e1, e2, h1, h2]
    unfold setP
    rw [List.set_comm _ _ e]
theorem setP_GB {bk : Bk} (g : GB bk) {c k : Nat} {t : List Nat} (hc : c < bk.length) (hk : k < (cp bk c).2.length) (gt : GT t) : GB (setP bk c k t) := by
  refine ⟨by rw [len_setP]; exact g.one, by rw [len_setP]; exact g.most, fun x hx => ?_⟩
  rcases List.mem_or_eq_of_mem_set hx with h | h
  · exact g.chaps x h
  · subst h
    have gc := g.chap hc
    refine ⟨gc.title, by show 1 ≤ ((cp bk c).2.set k t).length; rw [List.length_set]; exact gc.one, by show ((cp bk c).2.set k t).length ≤ 4; rw [List.length_set]; exact gc.most, fun y hy => ?_⟩
    rcases List.mem_or_eq_of_mem_set hy with h | h
    · exact gc.pars y h
    · subst h; exact gt
theorem turned_ok {bk : Bk} (w : WB bk) {d : Ed} (g : GE bk d) : m_turned [.val (encB bk), .val (encE d)] = .ok (encE ⟨d.c, d.k, d.b, d.b + d.t.length, ((par bk d.c d.k).drop d.b).take (d.e - d.b)⟩) := by
  refine Ok.eq ?_
  unfold m_turned b_turned
  have hn := new_text_good w g
  rw [show encE d = .tuple [.int d.c, .int d.k, .int d.b, .int d.e, .str (st d.t)] from rfl] at hn
  have ht := g.tlen
  have hp := w.par g.c g.k
  simp_arith [show encE d = .tuple [.int d.c, .int d.k, .int d.b, .int d.e, .str (st d.t)] from rfl, hn, ix_B g.c, ix_C1, ix_T g.k, st_len, show d.t.length ≤ 1000000 by omega, show (par bk d.c d.k).length ≤ 1000000 by omega, st_cut, cut_nat]
  rfl
theorem more_by_ok {d : Ed} (ht : d.t.length ≤ 1000) : m_more_by [.val (encE d)] = .ok (.int ((d.t.length : Int) - ((d.e : Int) - (d.b : Int)))) := by
  refine Ok.eq ?_
  unfold m_more_by b_more_by
  simp_arith [show encE d = .tuple [.int d.c, .int d.k, .int d.b, .int d.e, .str (st d.t)] from rfl, st_len, show d.t.length ≤ 1000000 by omega]
theorem ne_pair (a b c d : Int) : neD (.tuple [.int a, .int b]) (.tuple [.int c, .int d]) = .ok (.bool (!(a == c && b == d))) := by
  show (if shp 60 (.tuple [.int a, .int b]) = true ∧ shp 60 (.tuple [.int c, .int d]) = true then R.ok (PyData.bool (!_)) else .bad) = _
  rw [if_pos ⟨rfl, rfl⟩]
  simp only [PyData.eqv, PyData.eqvAll, Bool.and_true]
theorem eq_pair (a b c d : Int) : eqD (.tuple [.int a, .int b]) (.tuple [.int c, .int d]) = .ok (.bool (a == c && b == d)) := by
  show (if shp 60 (.tuple [.int a, .int b]) = true ∧ shp 60 (.tuple [.int c, .int d]) = true then R.ok (PyData.bool _) else .bad) = _
  rw [if_pos ⟨rfl, rfl⟩]
  simp only [PyData.eqv, PyData.eqvAll, Bool.and_true]
theorem pair_b (a b c d : Nat) : ((a : Int) == (c : Int) && (b : Int) == (d : Int)) = decide (a = c ∧ b = d) := by
  rw [Bool.eq_iff_iff, Bool.and_eq_true, beq_iff_eq, beq_iff_eq, decide_eq_true_eq]
  omega
/-- where a place is then -/
def ledP (bk : Bk) (d : Ed) (p : Pl) : Pl :=
  if ¬ (p.1 = d.c ∧ p.2.1 = d.k) ∨ p.2.2 < d.b then p else if d.e ≤ p.2.2 then (p.1, p.2.1, p.2.2 + d.t.length - (d.e - d.b)) else (p.1, p.2.1, min d.b ((newT bk d).length - 1))
theorem led_ok {bk : Bk} (w : WB bk) {d : Ed} (g : GE bk d) (p : Pl) : m_led [.val (encB bk), .val (encP p), .val (encE d)] = .ok (encP (ledP bk d p)) := by
  refine Ok.eq ?_
  unfold m_led b_led
  have hn := new_text_good w g
  have hm := more_by_ok (d := d) (by have := g.tlen; omega)
  rw [show encE d = .tuple [.int d.c, .int d.k, .int d.b, .int d.e, .str (st d.t)] from rfl] at hn hm
  have ht := g.tlen
  have hbe := g.be
  have gl := g.good.most
  have go := g.good.one
  have e1 : cutD [PyData.int d.c, .int d.k, .int d.b, .int d.e, .str (st d.t)] (some 2) (some 4) = [.int d.b, .int d.e] := rfl
  have e2 : cutD [PyData.int d.c, .int d.k, .int d.b, .int d.e, .str (st d.t)] none (some 2) = [.int d.c, .int d.k] := rfl
  have e3 : cutD [PyData.int p.1, .int p.2.1, .int p.2.2] none (some 2) = [.int p.1, .int p.2.1] := rfl
  simp_arith [show encE d = .tuple [.int d.c, .int d.k, .int d.b, .int d.e, .str (st d.t)] from rfl, show encP p = .tuple [.int p.1, .int p.2.1, .int p.2.2] from rfl, hn, hm, e1, e2, e3, ne_pair]
  rw [pair_b]
  by_cases h1 : p.1 = d.c ∧ p.2.1 = d.k
  · rw [decide_eq_true h1]
    by_cases h2 : p.2.2 < d.b
    · have er : ledP bk d p = p := if_pos (.inr h2)
      simp_arith [show (p.2.2 : Int) < (d.b : Int) by omega, er]
      rfl
    · have h2' : ¬ (p.2.2 : Int) < (d.b : Int) := by omega
      have hno : ¬ (¬ (p.1 = d.c ∧ p.2.1 = d.k) ∨ p.2.2 < d.b) := fun z => z.elim (fun z => z h1) h2
      by_cases h3 : d.e ≤ p.2.2
      · have er : ledP bk d p = (p.1, p.2.1, p.2.2 + d.t.length - (d.e - d.b)) := by unfold ledP; rw [if_neg hno, if_pos h3]
        simp_arith [h2', show (d.e : Int) ≤ (p.2.2 : Int) by omega, e3, er, hm]
        show PyData.tuple [_, _, .int _] = .tuple [_, _, .int _]
        rw [show ((p.2.2 + d.t.length - (d.e - d.b) : Nat) : Int) = (p.2.2 : Int) + ((d.t.length : Int) - ((d.e : Int) - (d.b : Int))) by omega]
      · have er : ledP bk d p = (p.1, p.2.1, min d.b ((newT bk d).length - 1)) := by unfold ledP; rw [if_neg hno, if_neg h3]
        simp_arith [h2', show ¬ (d.e : Int) ≤ (p.2.2 : Int) by omega, e3, er, st_len, show (newT bk d).length ≤ 1000000 by omega]
        show PyData.tuple [_, _, .int _] = .tuple [_, _, .int _]
        rw [show ((min d.b ((newT bk d).length - 1) : Nat) : Int) = (if ((newT bk d).length : Int) - 1 < (d.b : Int) then ((newT bk d).length : Int) - 1 else (d.b : Int)) by split <;> omega]
  · have er : ledP bk d p = p := if_pos (.inl h1)
    rw [decide_eq_false h1]
    simp_arith [er]
    rfl
/-! notes -/
structure Nt where
  c : Nat
  k : Nat
  b : Nat
  e : Nat
  t : List Nat
def encN (n : Nt) : PyData := .tuple [.tuple [.int n.c, .int n.k, .int n.b], .tuple [.int n.c, .int n.k, .int n.e], .str (st n.t)]
structure VN (bk : Bk) (n : Nt) : Prop where
  c : n.c < bk.length
  k : n.k < (cp bk n.c).2.length
  be : n.b < n.e
  e : n.e ≤ (par bk n.c n.k).length
  t : GT n.t
def ledF (d : Ed) (x : Nat) : Nat := if d.e ≤ x then x + d.t.length - (d.e - d.b) else if d.b ≤ x then d.b + d.t.length else x
def ledL (d : Ed) (x : Nat) : Nat := if d.b < x ∧ d.e ≤ x then x + d.t.length - (d.e - d.b) else if d.b < x then d.b else x
def ledN (d : Ed) (n : Nt) : Option Nt :=
  if ¬ (n.c = d.c ∧ n.k = d.k) then some n else if ledL d n.e ≤ ledF d n.b then none else some ⟨n.c, n.k, ledF d n.b, ledL d n.e, n.t⟩
def optN : Option Nt → PyData
  | some n => encN n
  | none => .none
theorem led_note_ok {bk : Bk} (w : WB bk) {d : Ed} (g : GE bk d) (n : Nt) : m_led_note [.val (encB bk), .val (encN n), .val (encE d)] = .ok (optN (ledN d n)) := by
  refine Ok.eq ?_
  unfold m_led_note b_led_note
  have hn := new_text_good w g
  have hm := more_by_ok (d := d) (by have := g.tlen; omega)
  rw [show encE d = .tuple [.int d.c, .int d.k, .int d.b, .int d.e, .str (st d.t)] from rfl] at hn hm
  have ht := g.tlen
  have hbe := g.be
  have e1 : cutD [PyData.int d.c, .int d.k, .int d.b, .int d.e, .str (st d.t)] (some 2) (some 4) = [.int d.b, .int d.e] := rfl
  have e2 : cutD [PyData.int d.c, .int d.k, .int d.b, .int d.e, .str (st d.t)] none (some 2) = [.int d.c, .int d.k] := rfl
  have e3 : ∀ x : Int, cutD [PyData.int n.c, .int n.k, .int x] none (some 2) = [.int n.c, .int n.k] := fun _ => rfl
  simp_arith [show encE d = .tuple [.int d.c, .int d.k, .int d.b, .int d.e, .str (st d.t)] from rfl, show encN n = .tuple [.tuple [.int n.c, .int n.k, .int n.b], .tuple [.int n.c, .int n.k, .int n.e], .str (st n.t)] from rfl, hn, e1, e2, e3, ne_pair]
  rw [pair_b]
  by_cases h1 : n.c = d.c ∧ n.k = d.k
  · rw [decide_eq_true h1]
    walk_at "ev"
    refine Ok.mono (P := fun o => o = Out.nx [.val (encB bk), .val (.tuple [.tuple [.int n.c, .int n.k, .int n.b], .tuple [.int n.c, .int n.k, .int n.e], .str (st n.t)]), .val (.tuple [.int d.c, .int d.k, .int d.b, .int d.e, .str (st d.t)]), .val (.tuple [.int n.c, .int n.k, .int n.b]), .val (.tuple [.int n.c, .int n.k, .int n.e]), .val (.str (st n.t)), .val (.int d.b), .val (.int d.e), .val (.int (ledF d n.b)), .val (.int n.e)]) ?_ ?_
    · unfold ledF
      by_cases q1 : d.e ≤ n.b
      · rw [if_pos q1, if_pos (show (d.e : Int) ≤ (n.b : Int) by omega)]
        simp_arith [hm]
        rw [show ((n.b + d.t.length - (d.e - d.b) : Nat) : Int) = (n.b : Int) + ((d.t.length : Int) - ((d.e : Int) - (d.b : Int))) by omega]
      · rw [if_neg q1, if_neg (show ¬ (d.e : Int) ≤ (n.b : Int) by omega)]
        by_cases q2 : d.b ≤ n.b
        · rw [if_pos q2, if_pos (show (d.b : Int) ≤ (n.b : Int) by omega)]
          simp_arith [st_len, show d.t.length ≤ 1000000 by omega]
          rw [show ((d.b + d.t.length : Nat) : Int) = (d.b : Int) + (d.t.length : Int) by omega]
        · rw [if_neg q2, if_neg (show ¬ (d.b : Int) ≤ (n.b : Int) by omega)]
          exact ⟨_, rfl, rfl⟩
    rintro o rfl
    walk_at "ev"
    refine Ok.mono (P := fun x => x = decide (d.b < n.e ∧ d.e ≤ n.e)) ?_ ?_
    · by_cases q1 : d.b < n.e
      · rw [if_pos (show (d.b : Int) < (n.e : Int) by omega)]
        refine ⟨_, rfl, ?_⟩
        show decide _ = decide _
        rw [Bool.eq_iff_iff, decide_eq_true_eq, decide_eq_true_eq]; omega
      · rw [if_neg (show ¬ (d.b : Int) < (n.e : Int) by omega)]
        exact ⟨_, rfl, (decide_eq_false (fun z => q1 z.1)).symm⟩
    rintro x rfl
    refine Ok.mono (P := fun o => o = Out.nx [.val (encB bk), .val (.tuple [.tuple [.int n.c, .int n.k, .int n.b], .tuple [.int n.c, .int n.k, .int n.e], .str (st n.t)]), .val (.tuple [.int d.c, .int d.k, .int d.b, .int d.e, .str (st d.t)]), .val (.tuple [.int n.c, .int n.k, .int n.b]), .val (.tuple [.int n.c, .int n.k, .int n.e]), .val (.str (st n.t)), .val (.int d.b), .val (.int d.e), .val (.int (ledF d n.b)), .val (.int (ledL d n.e))]) ?_ ?_
    · unfold ledL
      by_cases q1 : d.b < n.e ∧ d.e ≤ n.e
      · rw [if_pos q1, if_pos (decide_eq_true q1)]
        simp_arith [hm]
        rw [show ((n.e + d.t.length - (d.e - d.b) : Nat) : Int) = (n.e : Int) + ((d.t.length : Int) - ((d.e : Int) - (d.b : Int))) by omega]
      · rw [if_neg q1, if_neg (by rw [decide_eq_false q1]; exact Bool.false_ne_true)]
        by_cases q2 : d.b < n.e
        · rw [if_pos q2, if_pos (show (d.b : Int) < (n.e : Int) by omega)]
          exact ⟨_, rfl, rfl⟩
        · rw [if_neg q2, if_neg (show ¬ (d.b : Int) < (n.e : Int) by omega)]
          exact ⟨_, rfl, rfl⟩
    rintro o rfl
    walk_at "ev"
    by_cases q : ledL d n.e ≤ ledF d n.b
    · have er : ledN d n = none := by unfold ledN; rw [if_neg (fun z => z h1), if_pos q]
      simp_arith [show ((ledL d n.e : Nat) : Int) ≤ (ledF d n.b : Nat) by omega, er]
      rfl
    · have er : ledN d n = some ⟨n.c, n.k, ledF d n.b, ledL d n.e, n.t⟩ := by unfold ledN; rw [if_neg (fun z => z h1), if_neg q]
      simp_arith [show ¬ ((ledL d n.e : Nat) : Int) ≤ (ledF d n.b : Nat) by omega, er, e3]
      rfl
  · have er : ledN d n = some n := if_pos h1
    rw [decide_eq_false h1]
    simp_arith [er]
    rfl
end LB

namespace K01
open PySem PySem.Spec PyProof.Rows L2 L3 LB
local macro_rules | `(tactic| walk_at "ev") => `(tactic| simp only [ev_dVar, ev_dOwn, ev_dC, ev_d2, ev_d1, ev_dTest, ev_dChain, ev_dChain3, ev_dTr, ev_dNot, ev_dAnd, ev_dOr, ev_dAndV, ev_dOrV, ev_dNotV, ev_dIf, ev_oNone, ev_oSome, ev_dSlice, ev_dSlice3, ev_lNil, ev_lCons, ev_dTup, ev_dLst, ev_aNil, ev_aCons, ev_aScr, ev_dCall, ev_dScrLen, ev_dScrIx, ev_dSm1, ev_iItems1, ev_iRange1, ev_iRange2, ev_iRange3, ev_dPgLen, ev_sPgApp, ev_sPgPush, ev_sPgNil, ev_sPgNew, ev_sFreezeP, ev_sCallB, ev_dFld, ev_dFldTr, ev_dMeth, ev_sFldSet, ev_sFldNil, ev_sFldApp, ev_sFldPop, ev_sMethB, ev_sMake, ev_sRaiseB, ev_dOrX, ev_dDctIx, ev_dDctGet, ev_dDctNin, ev_dDctKeys, ev_sDctNew, ev_sDctSet, ev_sDctOf, ev_iEnumD, ev_iZipD, ev_tTrue, ev_dLcx, ev_sNil, ev_sSeq, ev_sFreeze, ev_sAsg, ev_sPar, ev_sOwnL, ev_sAppend, ev_sExtend, ev_sRet, ev_sRetOwn, ev_sRetN, ev_sIf, ev_sDrop, ev_sWhile, ev_sFor, ev_sRaise, ev_dLm1, ev_dIsE, ev_dIsVE, ev_dNoneX, ev_aExc, ev_sMovE, ev_aBor, ev_sRetB, ev_sRetCallB, ev_sMake2, ev_sTry, ev_gN_, ev_gTt, ev_gsC_, ev_gsN_, ev_seq_nx, ev_seq_rt, ev_seq_bk, ev_seq_ct, ev_lo_nx, ev_lo_rt, ev_lo_bk, ev_lo_ct, ev_out_nx, ev_out_rt, ev_den_, ev_guard_, ev_asBool_, ev_asInt_, ev_asStr_, ev_tr_none, ev_tr_bool, ev_tr_int, ev_tr_str, ev_tr_list, ev_tr_tuple, ev_add_ii, ev_add_ss, ev_add_tt, ev_add_ll, ev_sub_ii, ev_mul_ii, ev_mul_si, ev_mul_li, ev_mul_ti, ev_mod_ii, ev_div_ii, ev_neg_i, ev_eq_ss, ev_eq_ii, ev_ne_ss, ev_ne_ii, ev_lt_ii, ev_lt_ss, ev_le_ii, ev_le_ss, ev_ge_ii, ev_gt_ii, ev_is_bb, ev_isn_, ev_in_ss, ev_notIn_, ev_ix_l, ev_ix_t, ev_ix_s, ev_sl_l, ev_sl_t, ev_sl_s, ev_slS_l, ev_mkTup_, ev_mkLst_, ev_len_s, ev_len_l, ev_len_t, ev_int_i, ev_int_b, ev_tup_l, ev_tup_t, ev_lst_l, ev_lst_t, ev_sum_l, ev_all_l, ev_max1_l, ev_max2_, ev_min2_, ev_asList_, ev_clr_nx, ev_clr_rt, ev_tr_nx, ev_tr_rt, ev_seq_rb, ev_seq_ex, ev_lo_rb, ev_lo_ex, ev_outB_nx, ev_outB_rb, ev_outB_ex, ev_nxB_, ev_pgsOf_b, ev_bigOf_b, ev_bigOf_s, ev_putB_, ev_lastD_, ev_insOf_b, ev_insOf_s, ev_insOf_r, ev_bigI_b, ev_bigI_s, ev_dctOf_b, ev_frP_, ev_countD_, ev_indexD_, ev_isTD_, ev_isTD2_, ev_items_l, ev_items_t, ev_items_s, ev_itS_l, ev_itS_t, ev_strip_, ev_join_, ev_split_, ev_starts_, ev_ends_, ev_opt_some, ev_opt_none, ev_noexc_ok, ev_lc_nil, ev_lc_cons, ev_for_nil, ev_wipe_nil, ev_wipe_cons, ev_fr_, ev_scr_, ev_isT_tuple_n, ev_isT_tuple_b, ev_isT_tuple_i, ev_isT_tuple_s, ev_isT_tuple_t, ev_isT_tuple_l, ev_isT_bool_n, ev_isT_bool_b, ev_isT_bool_i, ev_isT_bool_s, ev_isT_bool_t, ev_isT_bool_l, ev_isT_int_n, ev_isT_int_b, ev_isT_int_i, ev_isT_int_s, ev_isT_int_t, ev_isT_int_l, ev_isT_str_n, ev_isT_str_b, ev_isT_str_i, ev_isT_str_s, ev_isT_str_t, ev_isT_str_l, ev_isT_list_n, ev_isT_list_b, ev_isT_list_i, ev_isT_list_s, ev_isT_list_t, ev_isT_list_l, ev_is_nn, ev_is_bn, ev_is_in, ev_is_sn, ev_is_tn, ev_is_ln, BIG_eq, Ok_bind, Ok_ok, Ok_noexc, at_0, at_1, at_2, at_3, at_4, R.ok_bind, R.exc_bind, R.bad_bind, sget_cons_zero, sget_cons_succ, List.set_cons_zero, List.set_cons_succ, List.cons_append, List.nil_append, List.append_nil, List.length_cons, List.length_nil, List.replicate_succ, List.replicate_zero, ite_true, ite_false, Bool.not_true, Bool.not_false, Bool.false_eq_true, decide_eq_true_eq, Nat.zero_add, ↓reduceIte, Nat.reduceAdd, Int.reduceLT, Int.reduceLE, Int.reduceAdd, Int.reduceSub, Int.reduceMul, Int.reduceNeg, LIM_eq, Int.reduceAbs, Nat.reduceLT, true_or, or_true, true_and, and_true, Int.natAbs_natCast, Int.toNat_natCast, Nat.mul_zero, Nat.add_zero, Int.reduceToNat, List.flatten_nil, List.flatten_cons, List.length_append, List.length_map, Int.zero_add, ne_eq, not_false_eq_true, not_true_eq_false,  Nat.reduceSub, Nat.reduceLeDiff, Nat.reduceEqDiff, decide_true, decide_false, Bool.and_true, Bool.true_and, Bool.and_false, Bool.false_and, Bool.or_true, Bool.true_or, Bool.or_false, Bool.false_or])
local macro_rules | `(tactic| simp_arith [$xs,*]) => `(tactic| simp only [ev_dVar, ev_dOwn, ev_dC, ev_d2, ev_d1, ev_dTest, ev_dChain, ev_dChain3, ev_dTr, ev_dNot, ev_dAnd, ev_dOr, ev_dAndV, ev_dOrV, ev_dNotV, ev_dIf, ev_oNone, ev_oSome, ev_dSlice, ev_dSlice3, ev_lNil, ev_lCons, ev_dTup, ev_dLst, ev_aNil, ev_aCons, ev_aScr, ev_dCall, ev_dScrLen, ev_dScrIx, ev_dSm1, ev_iItems1, ev_iRange1, ev_iRange2, ev_iRange3, ev_dPgLen, ev_sPgApp, ev_sPgPush, ev_sPgNil, ev_sPgNew, ev_sFreezeP, ev_sCallB, ev_dFld, ev_dFldTr, ev_dMeth, ev_sFldSet, ev_sFldNil, ev_sFldApp, ev_sFldPop, ev_sMethB, ev_sMake, ev_sRaiseB, ev_dOrX, ev_dDctIx, ev_dDctGet, ev_dDctNin, ev_dDctKeys, ev_sDctNew, ev_sDctSet, ev_sDctOf, ev_iEnumD, ev_iZipD, ev_tTrue, ev_dLcx, ev_sNil, ev_sSeq, ev_sFreeze, ev_sAsg, ev_sPar, ev_sOwnL, ev_sAppend, ev_sExtend, ev_sRet, ev_sRetOwn, ev_sRetN, ev_sIf, ev_sDrop, ev_sWhile, ev_sFor, ev_sRaise, ev_dLm1, ev_dIsE, ev_dIsVE, ev_dNoneX, ev_aExc, ev_sMovE, ev_aBor, ev_sRetB, ev_sRetCallB, ev_sMake2, ev_sTry, ev_gN_, ev_gTt, ev_gsC_, ev_gsN_, ev_seq_nx, ev_seq_rt, ev_seq_bk, ev_seq_ct, ev_lo_nx, ev_lo_rt, ev_lo_bk, ev_lo_ct, ev_out_nx, ev_out_rt, ev_den_, ev_guard_, ev_asBool_, ev_asInt_, ev_asStr_, ev_tr_none, ev_tr_bool, ev_tr_int, ev_tr_str, ev_tr_list, ev_tr_tuple, ev_add_ii, ev_add_ss, ev_add_tt, ev_add_ll, ev_sub_ii, ev_mul_ii, ev_mul_si, ev_mul_li, ev_mul_ti, ev_mod_ii, ev_div_ii, ev_neg_i, ev_eq_ss, ev_eq_ii, ev_ne_ss, ev_ne_ii, ev_lt_ii, ev_lt_ss, ev_le_ii, ev_le_ss, ev_ge_ii, ev_gt_ii, ev_is_bb, ev_isn_, ev_in_ss, ev_notIn_, ev_ix_l, ev_ix_t, ev_ix_s, ev_sl_l, ev_sl_t, ev_sl_s, ev_slS_l, ev_mkTup_, ev_mkLst_, ev_len_s, ev_len_l, ev_len_t, ev_int_i, ev_int_b, ev_tup_l, ev_tup_t, ev_lst_l, ev_lst_t, ev_sum_l, ev_all_l, ev_max1_l, ev_max2_, ev_min2_, ev_asList_, ev_clr_nx, ev_clr_rt, ev_tr_nx, ev_tr_rt, ev_seq_rb, ev_seq_ex, ev_lo_rb, ev_lo_ex, ev_outB_nx, ev_outB_rb, ev_outB_ex, ev_nxB_, ev_pgsOf_b, ev_bigOf_b, ev_bigOf_s, ev_putB_, ev_lastD_, ev_insOf_b, ev_insOf_s, ev_insOf_r, ev_bigI_b, ev_bigI_s, ev_dctOf_b, ev_frP_, ev_countD_, ev_indexD_, ev_isTD_, ev_isTD2_, ev_items_l, ev_items_t, ev_items_s, ev_itS_l, ev_itS_t, ev_strip_, ev_join_, ev_split_, ev_starts_, ev_ends_, ev_opt_some, ev_opt_none, ev_noexc_ok, ev_lc_nil, ev_lc_cons, ev_for_nil, ev_wipe_nil, ev_wipe_cons, ev_fr_, ev_scr_, ev_isT_tuple_n, ev_isT_tuple_b, ev_isT_tuple_i, ev_isT_tuple_s, ev_isT_tuple_t, ev_isT_tuple_l, ev_isT_bool_n, ev_isT_bool_b, ev_isT_bool_i, ev_isT_bool_s, ev_isT_bool_t, ev_isT_bool_l, ev_isT_int_n, ev_isT_int_b, ev_isT_int_i, ev_isT_int_s, ev_isT_int_t, ev_isT_int_l, ev_isT_str_n, ev_isT_str_b, ev_isT_str_i, ev_isT_str_s, ev_isT_str_t, ev_isT_str_l, ev_isT_list_n, ev_isT_list_b, ev_isT_list_i, ev_isT_list_s, ev_isT_list_t, ev_isT_list_l, ev_is_nn, ev_is_bn, ev_is_in, ev_is_sn, ev_is_tn, ev_is_ln, BIG_eq, Ok_bind, Ok_ok, Ok_noexc, at_0, at_1, at_2, at_3, at_4, R.ok_bind, R.exc_bind, R.bad_bind, sget_cons_zero, sget_cons_succ, List.set_cons_zero, List.set_cons_succ, List.cons_append, List.nil_append, List.append_nil, List.length_cons, List.length_nil, List.replicate_succ, List.replicate_zero, ite_true, ite_false, Bool.not_true, Bool.not_false, Bool.false_eq_true, decide_eq_true_eq, Nat.zero_add, ↓reduceIte, Nat.reduceAdd, Int.reduceLT, Int.reduceLE, Int.reduceAdd, Int.reduceSub, Int.reduceMul, Int.reduceNeg, LIM_eq, Int.reduceAbs, Nat.reduceLT, true_or, or_true, true_and, and_true, Int.natAbs_natCast, Int.toNat_natCast, Nat.mul_zero, Nat.add_zero, Int.reduceToNat, List.flatten_nil, List.flatten_cons, List.length_append, List.length_map, Int.zero_add, ne_eq, not_false_eq_true, not_true_eq_false,  Nat.reduceSub, Nat.reduceLeDiff, Nat.reduceEqDiff, decide_true, decide_false, Bool.and_true, Bool.true_and, Bool.and_false, Bool.false_and, Bool.or_true, Bool.true_or, Bool.or_false, Bool.false_or, $xs,*])
/-! ### any data: is it a text, a chapter, a book -/
theorem st_all (s : Str) : s = st s.cps.toList := rfl
def isTx' : PyData → Bool
  | .str s => LB.isT s.cps.toList
  | _ => false
def isCh : PyData → Bool
  | .tuple [a, .tuple ts] => isTx' a && (decide (1 ≤ ts.length) && decide (ts.length ≤ 4) && ts.all isTx')
  | _ => false
def isBk : PyData → Bool
  | .tuple cs => decide (1 ≤ cs.length) && decide (cs.length ≤ 3) && cs.all isCh
  | _ => false
/-- no part too long -/
def tdat : Nat → PyData → Bool
  | _, .none => true
  | _, .bool _ => true
  | _, .int _ => true
  | _, .str s => decide (s.length ≤ 100000) && s.cps.toList.all fun c => decide (c ≤ 126)
  | k + 1, .tuple xs => decide (xs.length ≤ 1000000) && xs.all (tdat k)
  | k + 1, .list xs => decide (xs.length ≤ 1000000) && xs.all (tdat k)
  | _, _ => false
theorem tdat_str {k : Nat} {s : Str} (h : tdat k (.str s) = true) : s.cps.toList.length ≤ 100000 ∧ ∀ c ∈ s.cps.toList, c ≤ 126 := by
  have h : (decide (s.length ≤ 100000) && s.cps.toList.all fun c => decide (c ≤ 126)) = true := by cases k <;> exact h
  rw [Bool.and_eq_true, decide_eq_true_eq, List.all_eq_true] at h
  refine ⟨?_, fun c hc => of_decide_eq_true (h.2 c hc)⟩
  rw [Array.length_toList]
  exact h.1
theorem str_tdat (k : Nat) {l : List Nat} (h : l.length ≤ 100000) (h2 : ∀ c ∈ l, c ≤ 126) : tdat k (.str (st l)) = true := by
  have e : tdat k (.str (st l)) = (decide ((st l).length ≤ 100000) && (st l).cps.toList.all fun c => decide (c ≤ 126)) := by cases k <;> rfl
  rw [e, Bool.and_eq_true, decide_eq_true_eq, List.all_eq_true]
  exact ⟨by rw [LB.st_len]; exact h, fun c hc => decide_eq_true (h2 c hc)⟩
theorem tdat_tup {k : Nat} {xs : List PyData} (h : tdat k (.tuple xs) = true) : xs.length ≤ 1000000 ∧ ∃ j, k = j + 1 ∧ ∀ x ∈ xs, tdat j x = true := by
  cases k with
  | zero => cases h
  | succ k =>
    have h : (decide (xs.length ≤ 1000000) && xs.all (tdat k)) = true := h
    rw [Bool.and_eq_true, decide_eq_true_eq, List.all_eq_true] at h
    exact ⟨h.1, k, rfl, h.2⟩
theorem tdat_shp : ∀ {k : Nat} {d : PyData}, tdat k d = true → ∀ j, k ≤ j → shp j d = true := by
  intro k
  induction k with
  | zero =>
    intro d h j hj
    cases d with
    | str s => exact shp_txt (l := s.cps.toList) (tdat_str h).2
    | tuple xs => cases h
    | list xs => cases h
    | dict kvs => cases h
    | _ => cases j <;> rfl
  | succ k ih =>
    intro d h j hj
    cases j with
    | zero => omega
    | succ j =>
      cases d with
      | str s => exact shp_txt (l := s.cps.toList) (tdat_str h).2
      | tuple xs =>
        have h : (decide (xs.length ≤ 1000000) && xs.all (tdat k)) = true := h
        rw [Bool.and_eq_true, decide_eq_true_eq, List.all_eq_true] at h
        exact List.all_eq_true.mpr fun x hx => ih (h.2 x hx) j (by omega)
      | list xs =>
        have h : (decide (xs.length ≤ 1000000) && xs.all (tdat k)) = true := h
        rw [Bool.and_eq_true, decide_eq_true_eq, List.all_eq_true] at h
        exact List.all_eq_true.mpr fun x hx => ih (h.2 x hx) j (by omega)
      | dict kvs => cases h
      | _ => rfl
theorem ne_nil (d : PyData) (ds : List PyData) (h : shp 60 (.list (d :: ds)) = true) : eqD (.list (d :: ds)) (.list []) = .ok (.bool false) ∧ neD (.list (d :: ds)) (.list []) = .ok (.bool true) := by
  constructor
  · show (if shp 60 (.list (d :: ds)) = true ∧ shp 60 (.list []) = true then R.ok (PyData.bool (PyData.eqv (.list (d :: ds)) (.list []))) else .bad) = _
    rw [if_pos ⟨h, rfl⟩]
    congr 2
  · show (if shp 60 (.list (d :: ds)) = true ∧ shp 60 (.list []) = true then R.ok (PyData.bool (!PyData.eqv (.list (d :: ds)) (.list []))) else .bad) = _
    rw [if_pos ⟨h, rfl⟩]
    congr 2
theorem text_any {k : Nat} {d : PyData} (h : tdat k d = true) : m_is_text [.val d] = .ok (.bool (isTx' d)) := by
  cases d with
  | str s =>
    exact is_text_ok s.cps.toList (tdat_str h).1
  | dict kvs => cases k <;> cases h
  | _ =>
    refine Ok.eq ?_
    unfold m_is_text b_is_text
    simp_arith []
    rfl
theorem texts_all {ts : List PyData} {j : Nat} (h : ∀ x ∈ ts, tdat j x = true) (gg : PyData → Ev → R Ev) (f : Ev → R PyData) (env : Ev) (hf : ∀ x, ∃ e, gg x env = .ok e ∧ f e = m_is_text [.val x]) : lcR gg tTrue f env ts = .ok (ts.map fun x => .bool (isTx' x)) := by
  have := lcR_map (gg := gg) (t := tTrue) (f := f) (env := env) (fun x : PyData => x) (fun x => PyData.bool (isTx' x)) ts fun x hx => by
    obtain ⟨e, h1, h2⟩ := hf x
    exact ⟨e, h1, rfl, by rw [h2, text_any (h x hx)]⟩
  rw [List.map_id'] at this
  exact this
theorem chapter_any {k : Nat} {d : PyData} (h : tdat k d = true) : m_is_chapter [.val d] = .ok (.bool (isCh d)) := by
  cases d with
  | tuple xs =>
    obtain ⟨hl, j, rfl, hx⟩ := tdat_tup h
    refine Ok.eq ?_
    unfold m_is_chapter b_is_chapter
    match xs, hl, hx with
    | [], _, _ =>
      simp_arith [show ((((0 : Nat) : Int) == 2)) = false from rfl]
      rfl
    | [a], _, _ =>
      simp_arith [show ((((1 : Nat) : Int) == 2)) = false from rfl]
      rfl
    | a :: b :: c :: r, hl, _ =>
      have h2 : (((r.length + 1 + 1 + 1 : Nat) : Int) == 2) = false := by
        rw [beq_eq_false_iff_ne]
        omega
      have hl : r.length + 1 + 1 + 1 ≤ 1000000 := hl
      simp_arith [hl, h2]
      show PyData.bool false = PyData.bool (isCh (.tuple (a :: b :: c :: r)))
      cases b <;> rfl
    | [a, b], _, hx =>
      have ta := text_any (hx a (by simp))
      have tb := hx b (by simp)
      simp_arith [at_0, at_1, ta, show ((((2 : Nat) : Int) == 2)) = true from rfl]
      cases hta : isTx' a with
      | false =>
        simp_arith [show ((((2 : Nat) : Int) == 2)) = true from rfl]
        show PyData.bool false = PyData.bool (isCh (.tuple [a, b]))
        congr 1
        cases b <;> first | rfl | (show false = (isTx' a && _); rw [hta]; rfl)
      | true =>
        cases b with
        | tuple ts =>
          obtain ⟨tl, jj, rfl, tx⟩ := tdat_tup tb
          simp_arith [tl, show ((((2 : Nat) : Int) == 2)) = true from rfl]
          have e : isCh (.tuple [a, .tuple ts]) = (decide (1 ≤ ts.length) && decide (ts.length ≤ 4) && ts.all isTx') := by
            show (isTx' a && _) = _
            rw [hta, Bool.true_and]
          rw [e, texts_all tx (gN 1) (dCall 1 m_is_text (aCons (dVar 1) aNil)) _ (fun x => ⟨_, rfl, rfl⟩)]
          by_cases h1 : 1 ≤ ts.length
          · by_cases h4 : ts.length ≤ 4
            · simp_arith [show (1 : Int) ≤ (ts.length : Int) by omega, show (ts.length : Int) ≤ 4 by omega, bools_map isTx' ts, show (ts.map isTx').all id = ts.all isTx' by rw [List.all_map]; rfl, h1, h4]
            · simp_arith [show (1 : Int) ≤ (ts.length : Int) by omega, show ¬ (ts.length : Int) ≤ 4 by omega, h1, h4]
          · simp_arith [show ¬ (1 : Int) ≤ (ts.length : Int) by omega, h1]
        | dict kvs => cases j <;> cases tb
        | _ =>
          simp_arith [show ((((2 : Nat) : Int) == 2)) = true from rfl]
          rfl
  | dict kvs => cases k <;> cases h
  | _ =>
    refine Ok.eq ?_
    unfold m_is_chapter b_is_chapter
    simp_arith []
    rfl
theorem book_any {k : Nat} {d : PyData} (h : tdat k d = true) : m_is_book [.val d] = .ok (.bool (isBk d)) := by
  cases d with
  | tuple cs =>
    obtain ⟨hl, j, rfl, hx⟩ := tdat_tup h
    refine Ok.eq ?_
    unfold m_is_book b_is_book
    simp_arith [hl]
    have hc := lcR_map (gg := gN 1) (t := tTrue) (f := dCall 1 m_is_chapter (aCons (dVar 1) aNil)) (env := [.val (.tuple cs), .emp]) (fun x : PyData => x) (fun x => PyData.bool (isCh x)) cs fun x hx' => ⟨_, rfl, rfl, chapter_any (hx x hx')⟩
    rw [List.map_id'] at hc
    rw [hc, show isBk (.tuple cs) = (decide (1 ≤ cs.length) && decide (cs.length ≤ 3) && cs.all isCh) from rfl]
    by_cases h1 : 1 ≤ cs.length
    · by_cases h4 : cs.length ≤ 3
      · simp_arith [show (1 : Int) ≤ (cs.length : Int) by omega, show (cs.length : Int) ≤ 3 by omega, bools_map isCh cs, show (cs.map isCh).all id = cs.all isCh by rw [List.all_map]; rfl, h1, h4]
      · simp_arith [show (1 : Int) ≤ (cs.length : Int) by omega, show ¬ (cs.length : Int) ≤ 3 by omega, h1, h4]
    · simp_arith [show ¬ (1 : Int) ≤ (cs.length : Int) by omega, h1]
  | dict kvs => cases k <;> cases h
  | _ =>
    refine Ok.eq ?_
    unfold m_is_book b_is_book
    simp_arith []
    rfl
theorem at_back {α : Type} {d : α} {l : List α} (h : 1 ≤ l.length) : atI l (-1) = some (l.getD (l.length - 1) d) := by
  have hne : l ≠ [] := fun z => by rw [z] at h; cases h
  rw [atI_last l hne, List.getLast_eq_getElem, getD_lt d (by omega)]
theorem ltext_any {k : Nat} {d : PyData} (h : tdat k d = true) : m_law_is_text [.val d] = .ok (.bool (isTx' d)) := by
  cases d with
  | str s =>
    obtain ⟨hl, hm⟩ := tdat_str h
    show m_law_is_text [.val (.str (st s.cps.toList))] = .ok (.bool (LB.isT s.cps.toList))
    generalize s.cps.toList = l at hl hm
    refine Ok.eq ?_
    unfold m_law_is_text b_law_is_text
    simp_arith [LB.st_len, show l.length ≤ 1000000 by omega]
    by_cases h1 : 1 ≤ l.length
    · by_cases h2 : l.length ≤ 60
      · have a0 : atI (LB.st l).cps.toList 0 = some (l.getD 0 0) := by
          cases l with
          | nil => exact absurd h1 (by decide)
          | cons x r =>
            show atI (x :: r) 0 = _
            rw [at_0]
            rfl
        have a1 : atI (LB.st l).cps.toList (-1) = some (l.getD (l.length - 1) 0) := by
          show atI l (-1) = _
          rw [at_back h1]
        have c1 : ∀ x : Nat, ((⟨#[x]⟩ : Str) == LB.st [32]) = decide (x = 32) := fun x => by
          rw [show (⟨#[x]⟩ : Str) = LB.st [x] from rfl, st_beq, Bool.eq_iff_iff, beq_iff_eq, decide_eq_true_eq]
          exact ⟨fun z => by injection z, fun z => by rw [z]⟩
        have htrim : (trim l == l) = (!decide (l.getD 0 0 = 32) && !decide (l.getD (l.length - 1) 0 = 32)) := by
          rw [Bool.eq_iff_iff, beq_iff_eq, trim_eq_iff, Bool.and_eq_true, Bool.not_eq_true', Bool.not_eq_true', decide_eq_false_iff_not, decide_eq_false_iff_not, List.getElem?_eq_getElem (show 0 < l.length by omega), List.getElem?_eq_getElem (show l.length - 1 < l.length by omega), getD_lt 0 (show 0 < l.length by omega), getD_lt 0 (show l.length - 1 < l.length by omega)]
          exact and_congr (not_congr ⟨fun z => Option.some.inj z, fun z => by rw [z]⟩) (not_congr ⟨fun z => Option.some.inj z, fun z => by rw [z]⟩)
        have hT : LB.isT l = (l.all okS && (!decide (l.getD 0 0 = 32) && !decide (l.getD (l.length - 1) 0 = 32)) && !(subIs (LB.st [32, 32]) (LB.st l))) := by
          unfold LB.isT
          rw [htrim, decide_eq_true h1, decide_eq_true h2, Bool.true_and, Bool.true_and]
        rw [hT]
        simp_arith [show (0 : Int) < (l.length : Int) by omega, show (l.length : Int) < 61 by omega, LB.st_len, show l.length ≤ 1000000 by omega, a0, a1, lit_b, lit_bb, c1]
        by_cases f0 : l.getD 0 0 = 32
        · simp_arith [f0, decide_true, Bool.not_true, Bool.false_and, Bool.and_false]
        · by_cases f1 : l.getD (l.length - 1) 0 = 32
          · simp_arith [f0, f1, decide_true, Bool.not_true, Bool.false_and, Bool.and_false]
          · cases f2 : subIs (LB.st [32, 32]) (LB.st l) with
            | true =>
              simp_arith [f0, f1, Bool.not_true, Bool.and_false]
            | false =>
              simp_arith [f0, f1, signs_map, LB.st_len, show l.length ≤ 1000000 by omega]
              rw [lcR_filter (fun c => PyData.str (LB.st [c])) (fun c => !okS c) (fun c => PyData.str (LB.st [c])) l (fun c hc => by
                refine ⟨_, rfl, ?_, fun _ => rfl⟩
                simp_arith [-ev_le_ss, lit_t, le_ss1]
                unfold okS
                by_cases q : 32 ≤ c
                · simp_arith [q]
                · simp_arith [q])]
              cases f3 : l.all okS with
              | true =>
                rw [List.filter_eq_nil_iff.mpr fun c hc => by rw [List.all_eq_true.mp f3 c hc]; exact Bool.false_ne_true]
                exact ⟨_, rfl, _, rfl, rfl⟩
              | false =>
                obtain ⟨c, r, e⟩ : ∃ c r, l.filter (fun c => !okS c) = c :: r := by
                  cases e : l.filter (fun c => !okS c) with
                  | cons c r => exact ⟨c, r, rfl⟩
                  | nil =>
                    have := List.filter_eq_nil_iff.mp e
                    have : l.all okS = true := List.all_eq_true.mpr fun c hc => by
                      have := this c hc
                      simpa using this
                    rw [this] at f3
                    cases f3
                rw [e]
                have hsh : shp 60 (.list (PyData.str (LB.st [c]) :: r.map fun c => PyData.str (LB.st [c]))) = true := by
                  show shp 60 (.list ((c :: r).map fun c => PyData.str (LB.st [c]))) = true
                  rw [← e]
                  exact List.all_eq_true.mpr fun d hd => by
                    obtain ⟨y, hy, rfl⟩ := List.mem_map.mp hd
                    exact shp_txt fun z hz => by rw [List.mem_singleton.mp hz]; exact hm y (List.mem_filter.mp hy).1
                exact ⟨_, rfl, _, (ne_nil _ _ hsh).1, rfl⟩
      · have : LB.isT l = false := by unfold LB.isT; rw [decide_eq_false h2]; simp
        simp_arith [show (0 : Int) < (l.length : Int) by omega, show ¬ (l.length : Int) < 61 by omega, this]
    · have : LB.isT l = false := by unfold LB.isT; rw [decide_eq_false h1]; simp
      simp_arith [show ¬ (0 : Int) < (l.length : Int) by omega, this]
  | dict kvs => cases k <;> cases h
  | _ =>
    refine Ok.eq ?_
    unfold m_law_is_text b_law_is_text
    simp_arith []
    rfl
def lbBody : Ev → R Out := (sSeq (sIf (dOr (dNot (dTr (d1 (isTD "tuple") (dVar 1)))) (dOr (dTest (d2 neD (d1 lenD (dVar 1)) (dC (.int 2)))) (dNot (dTr (d1 (isTD "tuple") (d2 ixD (dVar 1) (dC (.int 1)))))))) (sRet (dC (.bool false))) sNil)
  (sSeq (sIf (dOr (dNot (dTr (dCall 1 m_law_is_text (aCons (d2 ixD (dVar 1) (dC (.int 0))) aNil)))) (dNot (dTest (dChain ltD ltD (dC (.int 0)) (d1 lenD (d2 ixD (dVar 1) (dC (.int 1)))) (dC (.int 5)))))) (sRet (dC (.bool false))) sNil)
  (sIf (dTest (d2 neD (dLcx (iItems1 (d2 ixD (dVar 1) (dC (.int 1)))) (gN 2) (dNot (dTr (dCall 1 m_law_is_text (aCons (dVar 2) aNil)))) (dVar 2) [2]) (dLst lNil))) (sRet (dC (.bool false))) sNil)))
def LbP (d c : PyData) (o : Out) : Prop := (isCh c = true ∧ ∃ y2, o = .nx [.val d, .val c, y2]) ∨ (isCh c = false ∧ o = .rt (.bool false))
theorem lb_step {j : Nat} (hj : j ≤ 50) (d c : PyData) (h : tdat j c = true) (x2 : Sl) : Ok (lbBody [.val d, .val c, x2]) (LbP d c) := by
  unfold lbBody
  cases c with
  | tuple xs =>
    obtain ⟨hl, j, rfl, hx⟩ := tdat_tup h
    match xs, hl, hx with
    | [], _, _ =>
      simp_arith [show ((((0 : Nat) : Int) == 2)) = false from rfl]
      exact .inr ⟨rfl, rfl⟩
    | [a], _, _ =>
      simp_arith [show ((((1 : Nat) : Int) == 2)) = false from rfl]
      exact .inr ⟨rfl, rfl⟩
    | a :: b :: c :: r, hl, _ =>
      have h2 : (((r.length + 1 + 1 + 1 : Nat) : Int) == 2) = false := by
        rw [beq_eq_false_iff_ne]
        omega
      have hl : r.length + 1 + 1 + 1 ≤ 1000000 := hl
      simp_arith [hl, h2]
      exact .inr ⟨by cases b <;> rfl, rfl⟩
    | [a, b], _, hx =>
      have ta := ltext_any (hx a (by simp))
      have tb := hx b (by simp)
      cases b with
      | tuple ts =>
        obtain ⟨tl, jj, rfl, tx⟩ := tdat_tup tb
        have e : isCh (.tuple [a, .tuple ts]) = (isTx' a && (decide (1 ≤ ts.length) && decide (ts.length ≤ 4) && ts.all isTx')) := rfl
        simp_arith [at_0, at_1, ta, tl, show ((((2 : Nat) : Int) == 2)) = true from rfl]
        cases hta : isTx' a with
        | false =>
          simp_arith []
          exact .inr ⟨by rw [e, hta]; rfl, rfl⟩
        | true =>
          by_cases h1 : 1 ≤ ts.length
          · by_cases h4 : ts.length ≤ 4
            · simp_arith [show (0 : Int) < (ts.length : Int) by omega, show (ts.length : Int) < 5 by omega, at_1, tl]
              have hf := lcR_filter (gg := gN 2) (t := dNot (dTr (dCall 1 m_law_is_text (aCons (dVar 2) aNil)))) (f := dVar 2) (env := [.val d, .val (.tuple [a, .tuple ts]), .emp]) (fun x : PyData => x) (fun x => !isTx' x) (fun x => x) ts fun x hx' => by
                refine ⟨[.val d, .val (.tuple [a, .tuple ts]), .val x], rfl, ?_, fun _ => rfl⟩
                simp_arith [ltext_any (tx x hx')]
              rw [List.map_id', List.map_id'] at hf
              rw [hf]
              cases f3 : ts.all isTx' with
              | true =>
                rw [List.filter_eq_nil_iff.mpr fun c hc => by rw [List.all_eq_true.mp f3 c hc]; exact Bool.false_ne_true]
                exact ⟨_, rfl, _, rfl, _, rfl, _, rfl, .inl ⟨by rw [e, hta, f3, decide_eq_true h1, decide_eq_true h4]; rfl, _, rfl⟩⟩
              | false =>
                obtain ⟨c, r, e2⟩ : ∃ c r, ts.filter (fun c => !isTx' c) = c :: r := by
                  cases e2 : ts.filter (fun c => !isTx' c) with
                  | cons c r => exact ⟨c, r, rfl⟩
                  | nil =>
                    have := List.filter_eq_nil_iff.mp e2
                    have : ts.all isTx' = true := List.all_eq_true.mpr fun c hc => by
                      have := this c hc
                      simpa using this
                    rw [this] at f3
                    cases f3
                rw [e2]
                have hsh : shp 60 (.list (c :: r)) = true := by
                  rw [← e2]
                  exact List.all_eq_true.mpr fun y hy => tdat_shp (tx y (List.mem_filter.mp hy).1) 59 (by omega)
                exact ⟨_, rfl, _, (ne_nil _ _ hsh).2, _, rfl, _, rfl, .inr ⟨by rw [e, f3]; simp, rfl⟩⟩
            · simp_arith [show (0 : Int) < (ts.length : Int) by omega, show ¬ (ts.length : Int) < 5 by omega]
              exact .inr ⟨by rw [e, decide_eq_false h4]; simp, rfl⟩
          · simp_arith [show ¬ (0 : Int) < (ts.length : Int) by omega]
            exact .inr ⟨by rw [e, decide_eq_false h1]; simp, rfl⟩
      | dict kvs => cases j <;> cases tb
      | _ =>
        simp_arith [at_1, show ((((2 : Nat) : Int) == 2)) = true from rfl]
        exact .inr ⟨rfl, rfl⟩
  | dict kvs => cases j <;> cases h
  | _ =>
    simp_arith []
    exact .inr ⟨rfl, rfl⟩
theorem lb_loop {j : Nat} (hj : j ≤ 50) (d : PyData) : ∀ (cs : List PyData) (x1 x2 : Sl), (∀ c ∈ cs, tdat j c = true) → Ok (forR (gN 1) lbBody cs [.val d, x1, x2]) fun o => (cs.all isCh = true ∧ ∃ y1 y2, o = .nx [.val d, y1, y2]) ∨ (cs.all isCh = false ∧ o = .rt (.bool false))
  | [], x1, x2, _ => ⟨_, ev_for_nil _ _ _, .inl ⟨rfl, _, _, rfl⟩⟩
  | c :: cs, x1, x2, h => by
    rw [ev_for_cons]
    refine Ok.bind ⟨[.val d, .val c, x2], rfl, Ok.bind (Ok.mono (lb_step hj d c (h c List.mem_cons_self) x2) fun o ho => ?_)⟩
    rcases ho with ⟨h1, y2, rfl⟩ | ⟨h1, rfl⟩
    · refine Ok.mono (lb_loop hj d cs (.val c) y2 fun z hz => h z (List.mem_cons_of_mem _ hz)) fun o ho => ?_
      rcases ho with ⟨h2, y⟩ | ⟨h2, y⟩
      · exact .inl ⟨by rw [List.all_cons, h1, h2]; rfl, y⟩
      · exact .inr ⟨by rw [List.all_cons, h1, h2]; rfl, y⟩
    · exact ⟨_, rfl, .inr ⟨by rw [List.all_cons, h1]; rfl, rfl⟩⟩
theorem lbook_any {k : Nat} (hk : k ≤ 50) {d : PyData} (h : tdat k d = true) : m_law_is_book [.val d] = .ok (.bool (isBk d)) := by
  cases d with
  | tuple cs =>
    obtain ⟨hl, j, rfl, hx⟩ := tdat_tup h
    rw [show isBk (.tuple cs) = (decide (1 ≤ cs.length) && decide (cs.length ≤ 3) && cs.all isCh) from rfl]
    refine Ok.eq ?_
    unfold m_law_is_book b_law_is_book
    have hlp := lb_loop (j := j) (by omega) (.tuple cs) cs .emp .emp hx
    unfold lbBody at hlp
    simp_arith [hl]
    by_cases h1 : 1 ≤ cs.length
    · by_cases h4 : cs.length ≤ 3
      · simp_arith [show (0 : Int) < (cs.length : Int) by omega, show (cs.length : Int) < 4 by omega, hl]
        refine Ok.mono hlp fun o ho => ?_
        rcases ho with ⟨h2, y1, y2, rfl⟩ | ⟨h2, rfl⟩
        · simp_arith [h1, h2, h4]
        · simp_arith [h2, Bool.and_false]
      · simp_arith [show (0 : Int) < (cs.length : Int) by omega, show ¬ (cs.length : Int) < 4 by omega, h4, Bool.and_false, Bool.false_and]
    · simp_arith [show ¬ (0 : Int) < (cs.length : Int) by omega, h1, Bool.false_and]
  | dict kvs => cases k <;> cases h
  | _ =>
    refine Ok.eq ?_
    unfold m_law_is_book b_law_is_book
    simp_arith []
    rfl
/-! ### odd things -/
def bdat : Nat → PyData → Bool
  | _, .str s => decide (s.length ≤ 60) && s.cps.toList.all fun c => decide (c ≤ 126)
  | k + 1, .tuple xs => decide (1 ≤ xs.length) && decide (xs.length ≤ 100) && xs.all (bdat k)
  | _, _ => false
theorem tdat_mono : ∀ {k : Nat} {d : PyData}, tdat k d = true → tdat (k + 1) d = true := by
  intro k
  induction k with
  | zero =>
    intro d h
    cases d with
    | str s => exact h
    | tuple xs => cases h
    | list xs => cases h
    | dict kvs => cases h
    | _ => rfl
  | succ k ih =>
    intro d h
    cases d with
    | str s => exact h
    | tuple xs =>
      have h : (decide (xs.length ≤ 1000000) && xs.all (tdat k)) = true := h
      rw [Bool.and_eq_true, List.all_eq_true] at h
      show (decide (xs.length ≤ 1000000) && xs.all (tdat (k + 1))) = true
      rw [Bool.and_eq_true, List.all_eq_true]
      exact ⟨h.1, fun x hx => ih (h.2 x hx)⟩
    | list xs =>
      have h : (decide (xs.length ≤ 1000000) && xs.all (tdat k)) = true := h
      rw [Bool.and_eq_true, List.all_eq_true] at h
      show (decide (xs.length ≤ 1000000) && xs.all (tdat (k + 1))) = true
      rw [Bool.and_eq_true, List.all_eq_true]
      exact ⟨h.1, fun x hx => ih (h.2 x hx)⟩
    | dict kvs => cases h
    | _ => rfl
theorem bdat_tdat : ∀ {k : Nat} {d : PyData}, bdat k d = true → tdat k d = true := by
  intro k
  induction k with
  | zero =>
    intro d h
    cases d with
    | str s =>
      have h : (decide (s.length ≤ 60) && s.cps.toList.all fun c => decide (c ≤ 126)) = true := h
      rw [Bool.and_eq_true, decide_eq_true_eq] at h
      show (decide (s.length ≤ 100000) && s.cps.toList.all fun c => decide (c ≤ 126)) = true
      rw [Bool.and_eq_true, decide_eq_true_eq]
      exact ⟨by omega, h.2⟩
    | _ => cases h
  | succ k ih =>
    intro d h
    cases d with
    | str s =>
      have h : (decide (s.length ≤ 60) && s.cps.toList.all fun c => decide (c ≤ 126)) = true := h
      rw [Bool.and_eq_true, decide_eq_true_eq] at h
      show (decide (s.length ≤ 100000) && s.cps.toList.all fun c => decide (c ≤ 126)) = true
      rw [Bool.and_eq_true, decide_eq_true_eq]
      exact ⟨by omega, h.2⟩
    | tuple xs =>
      have h : (decide (1 ≤ xs.length) && decide (xs.length ≤ 100) && xs.all (bdat k)) = true := h
      rw [Bool.and_eq_true, Bool.and_eq_true, decide_eq_true_eq, decide_eq_true_eq, List.all_eq_true] at h
      show (decide (xs.length ≤ 1000000) && xs.all (tdat k)) = true
      rw [Bool.and_eq_true, decide_eq_true_eq, List.all_eq_true]
      exact ⟨by omega, fun x hx => ih (h.2 x hx)⟩
    | _ => cases h
theorem tup_tdat {k : Nat} {xs : List PyData} (h : xs.length ≤ 1000000) (hx : ∀ x ∈ xs, tdat k x = true) : tdat (k + 1) (.tuple xs) = true := by
  show (decide (xs.length ≤ 1000000) && xs.all (tdat k)) = true
  rw [Bool.and_eq_true, decide_eq_true_eq, List.all_eq_true]
  exact ⟨h, hx⟩
theorem list_tdat {k : Nat} {xs : List PyData} (h : xs.length ≤ 1000000) (hx : ∀ x ∈ xs, tdat k x = true) : tdat (k + 1) (.list xs) = true := by
  show (decide (xs.length ≤ 1000000) && xs.all (tdat k)) = true
  rw [Bool.and_eq_true, decide_eq_true_eq, List.all_eq_true]
  exact ⟨h, hx⟩
theorem ix_mem {Q : PyData → Prop} {L : List PyData} (h : ∀ x ∈ L, Q x) {v : Nat} (hv : v < L.length) : Ok (ixD (.list L) (.int (v : Int))) Q := by
  refine ⟨L[v], ?_, h _ (List.getElem_mem hv)⟩
  show opt (atI L (v : Int)) = _
  rw [atI_ok L v hv]
  rfl
theorem ev_upperD (z : Str) : upperD (.str z) = if z.length ≤ 1000000 then .ok (.str (Txt.upper z)) else .bad := nrfl rfl
theorem ev_dRev (f : Ev → R PyData) (l u c : Ev → R (Option Int)) (env : Ev) : dRev f l u c env = (f env).bind fun x => (l env).bind fun lo => (u env).bind fun hi => (c env).bind fun st => revD x lo hi st := nrfl rfl
theorem ev_revD (xs : List PyData) : revD (.tuple xs) none none (some (-1)) = .ok (.tuple xs.reverse) := nrfl rfl
theorem up_le (c : Nat) (h : c ≤ 126) : PyProof.Rows.up1 c ≤ 126 := by
  unfold PyProof.Rows.up1
  split <;> omega
theorem cut_mem {α : Type} {l : List α} {lo hi : Option Int} {x : α} (h : x ∈ cutD l lo hi) : x ∈ l := by
  unfold L3.cutD at h
  exact List.mem_of_mem_drop (List.mem_of_mem_take h)
theorem cut_le {α : Type} (l : List α) (lo hi : Option Int) : (cutD l lo hi).length ≤ l.length := by
  unfold L3.cutD
  rw [List.length_take, List.length_drop]
  omega
theorem tdat_ge {k j : Nat} {d : PyData} (h : tdat k d = true) (hj : k ≤ j) : tdat j d = true := by
  induction j with
  | zero =>
    have : k = 0 := by omega
    subst this
    exact h
  | succ j ih =>
    by_cases e : k = j + 1
    · subst e; exact h
    · exact tdat_mono (ih (by omega))
theorem odd_str {k : Nat} (s : Str) (c : Int) (f : Nat) (h : bdat k (.str s) = true) : Ok (K01.m_law_odd (f + 1) [.val (.str s), .val (.int c)]) fun d' => tdat 2 d' = true := by
  show Ok (den 4 (K01.b_law_odd (K01.m_law_odd f)) _) _
  unfold K01.b_law_odd
  have h : (decide (s.length ≤ 60) && s.cps.toList.all fun c => decide (c ≤ 126)) = true := by cases k <;> exact h
  rw [Bool.and_eq_true, decide_eq_true_eq, List.all_eq_true] at h
  obtain ⟨hl, hc⟩ := h
  have hl : s.cps.toList.length ≤ 60 := by rw [Array.length_toList]; exact hl
  rw [show PyData.str s = .str (LB.st s.cps.toList) from rfl]
  generalize s.cps.toList = l at hl hc
  have hc : ∀ c ∈ l, c ≤ 126 := fun c h => of_decide_eq_true (hc c h)
  obtain ⟨v, hv⟩ := Int.eq_ofNat_of_zero_le (mixZ_nn c 9749 (m := ((30 : Nat) : Int)) (by decide))
  have hv2 := mixZ_lt c 9749 (m := ((30 : Nat) : Int)) (by decide)
  rw [hv] at hv2
  have hup : Txt.upper (LB.st l) = LB.st (l.map PyProof.Rows.up1) := by
    rw [PyProof.Rows.upper_ascii (x := LB.st l) (fun c h => by
      have h : c ∈ l := h
      have := hc c h
      omega)]
    show (⟨(l.toArray).map PyProof.Rows.up1⟩ : Str) = ⟨(l.map PyProof.Rows.up1).toArray⟩
    rw [List.map_toArray]
  have c1 := cut_le l none (some (-1))
  have c2 := cut_le l none (some 1)
  simp_arith [LB.st_len, lit_b, show Str.ofString "a" = LB.st [97] from rfl, st_app, LB.st_cut, ev_upperD, hup, LB.st_mul, mix_ok c 9749 ((30 : Nat) : Int) (by decide) (by decide) (by decide), hv, List.length_cons, List.length_nil, show l.length + 1 ≤ 1000000 by omega, show l.length ≤ 1000000 by omega, show l.length ≤ 1000 by omega, show l.length + (cutD l none (some 1)).length ≤ 1000000 by omega]
  refine ix_mem (Q := fun d' => tdat 2 d' = true) ?_ (show v < 30 by omega)
  have t0 : tdat 2 (.str (LB.st l)) = true := str_tdat 2 (by omega) hc
  have t0' : tdat 1 (.str (LB.st l)) = true := str_tdat 1 (by omega) hc
  have ta : tdat 2 (.str (LB.st [97])) = true := str_tdat 2 (by decide) fun c h => by rw [List.mem_singleton.mp h]; decide
  have t1 : tdat 2 (.str (LB.st (l ++ [97]))) = true := str_tdat 2 (by rw [List.length_append]; show l.length + 1 ≤ _; omega) fun c h => (List.mem_append.mp h).elim (hc c) fun h => by rw [List.mem_singleton.mp h]; decide
  have t2 : tdat 2 (.str (LB.st (L3.cutD l none (some (-1))))) = true := str_tdat 2 (by omega) fun c h => hc c (cut_mem h)
  have t3 : tdat 2 (.str (LB.st (l.map PyProof.Rows.up1))) = true := str_tdat 2 (by rw [List.length_map]; omega) fun c h => by
    obtain ⟨y, hy, rfl⟩ := List.mem_map.mp h
    exact up_le y (hc y hy)
  have t4 : tdat 2 (.str (LB.st (l ++ [32]))) = true := str_tdat 2 (by rw [List.length_append]; show l.length + 1 ≤ _; omega) fun c h => (List.mem_append.mp h).elim (hc c) fun h => by rw [List.mem_singleton.mp h]; decide
  have t5 : tdat 2 (.str (LB.st (l ++ l))) = true := str_tdat 2 (by rw [List.length_append]; omega) fun c h => (List.mem_append.mp h).elim (hc c) (hc c)
  have t6 : tdat 2 (.list [.str (LB.st l)]) = true := list_tdat (show 1 ≤ 1000000 by decide) fun x hx => by rw [List.mem_singleton.mp hx]; exact t0'
  have t7 : tdat 2 (.str (LB.st (l ++ L3.cutD l none (some 1)))) = true := str_tdat 2 (by rw [List.length_append]; omega) fun c h => (List.mem_append.mp h).elim (hc c) fun h => hc c (cut_mem h)
  rw [← List.all_eq_true (p := tdat 2)]
  simp only [List.all_cons, List.all_nil, ta, t1, t2, t3, t4, t5, t6, t7, Bool.and_true, Bool.true_and]
  decide +kernel
theorem odd_ok : ∀ (k : Nat) (d : PyData) (c : Int) (f : Nat), bdat k d = true → k < f → k ≤ 40 → Ok (K01.m_law_odd f [.val d, .val (.int c)]) fun d' => tdat (k + 2) d' = true := by
  intro k
  induction k with
  | zero =>
    intro d c f h hf hk
    obtain ⟨f, rfl⟩ : ∃ g, f = g + 1 := ⟨f - 1, by omega⟩
    cases d with
    | str s => exact odd_str s c f h
    | _ => cases h
  | succ k ih =>
    intro d c f h hf hk
    obtain ⟨f, rfl⟩ : ∃ g, f = g + 1 := ⟨f - 1, by omega⟩
    cases d with
    | str s => exact Ok.mono (odd_str s c f h) fun d' hd => tdat_ge hd (by omega)
    | tuple xs =>
      show Ok (den 4 (K01.b_law_odd (K01.m_law_odd f)) _) _
      unfold K01.b_law_odd
      have h : (decide (1 ≤ xs.length) && decide (xs.length ≤ 100) && xs.all (bdat k)) = true := h
      rw [Bool.and_eq_true, Bool.and_eq_true, decide_eq_true_eq, decide_eq_true_eq, List.all_eq_true] at h
      obtain ⟨⟨l1, l2⟩, hx⟩ := h
      have hne : neD (.tuple xs) (.tuple []) = .ok (.bool true) := by
        cases xs with
        | nil => exact absurd l1 (by decide)
        | cons x r =>
          show (if shp 60 (.tuple (x :: r)) = true ∧ shp 60 (.tuple []) = true then R.ok (PyData.bool (!PyData.eqv (.tuple (x :: r)) (.tuple []))) else .bad) = _
          rw [if_pos ⟨tdat_shp (bdat_tdat (k := k + 1) (d := .tuple (x :: r)) (by
            show (decide (1 ≤ (x :: r).length) && decide ((x :: r).length ≤ 100) && (x :: r).all (bdat k)) = true
            rw [Bool.and_eq_true, Bool.and_eq_true, decide_eq_true_eq, decide_eq_true_eq, List.all_eq_true]
            exact ⟨⟨l1, l2⟩, hx⟩)) 60 (by omega), rfl⟩]
          congr 2
      obtain ⟨v, hv⟩ := Int.eq_ofNat_of_zero_le (mixZ_nn c 9781 (m := 5) (by decide))
      obtain ⟨a, ha⟩ := Int.eq_ofNat_of_zero_le (mixZ_nn c 9769 (m := (xs.length : Int)) (by omega))
      have ha2 := mixZ_lt c 9769 (m := (xs.length : Int)) (by omega)
      rw [ha] at ha2
      have ha3 : a < xs.length := by omega
      simp_arith [hne, mix_ok c 9781 5 (by decide) (by decide) (by decide), hv]
      by_cases hv0 : (0 : Int) < (v : Int)
      · have hrec := ih xs[a] (c + 31 * (a : Int) + 7) f (hx _ (List.getElem_mem ha3)) (by omega) (by omega)
        simp_arith [show (v : Int) > 0 from hv0, hne, mix_ok c 9769 (xs.length : Int) (by decide) (by decide) (by omega), ha, show xs.length ≤ 1000000 by omega, atI_ok xs a ha3]
        have hA := cut_le xs none (some (a : Int))
        have hB := cut_le xs (some ((a : Int) + 1)) none
        have mA : ∀ x ∈ L3.cutD xs none (some (a : Int)), x ∈ xs := fun x hx => cut_mem hx
        have mB : ∀ x ∈ L3.cutD xs (some ((a : Int) + 1)) none, x ∈ xs := fun x hx => cut_mem hx
        generalize L3.cutD xs none (some (a : Int)) = A at hA mA ⊢
        generalize L3.cutD xs (some ((a : Int) + 1)) none = B at hB mB ⊢
        refine Ok.mono hrec fun d' hd => ?_
        simp_arith [show A.length ≤ 999999 by omega, List.length_append, List.length_cons, List.length_nil, show A.length + 1 + B.length ≤ 1000000 by omega]
        refine tup_tdat (by rw [List.length_append, List.length_append]; show A.length + 1 + B.length ≤ _; omega) fun x hx' => ?_
        rcases List.mem_append.mp hx' with hx' | hx'
        · rcases List.mem_append.mp hx' with hx' | hx'
          · exact tdat_ge (bdat_tdat (hx x (mA x hx'))) (by omega)
          · rw [List.mem_singleton.mp hx']; exact hd
        · exact tdat_ge (bdat_tdat (hx x (mB x hx'))) (by omega)
      · obtain ⟨z, hz⟩ := Int.eq_ofNat_of_zero_le (mixZ_nn c 9749 (m := ((28 : Nat) : Int)) (by decide))
        have hz2 := mixZ_lt c 9749 (m := ((28 : Nat) : Int)) (by decide)
        rw [hz] at hz2
        have hA := cut_le xs (some (-1)) none
        have hB := cut_le xs none (some (-1))
        have hC := cut_le xs (some 1) none
        have mA : ∀ x ∈ L3.cutD xs (some (-1)) none, x ∈ xs := fun x hx => cut_mem hx
        have mB : ∀ x ∈ L3.cutD xs none (some (-1)), x ∈ xs := fun x hx => cut_mem hx
        have mC : ∀ x ∈ L3.cutD xs (some 1) none, x ∈ xs := fun x hx => cut_mem hx
        simp_arith [show ¬ (v : Int) > 0 from hv0, ev_dRev, ev_revD, mix_ok c 9749 ((28 : Nat) : Int) (by decide) (by decide) (by decide), hz, show xs.length + (L3.cutD xs (some (-1)) none).length ≤ 1000000 by omega]
        refine ix_mem (Q := fun d' => tdat (k + 1 + 2) d' = true) ?_ (show z < 28 by omega)
        have hx1 : ∀ x ∈ xs, tdat (k + 1) x = true := fun x h => tdat_ge (bdat_tdat (hx x h)) (by omega)
        have hx2 : ∀ x ∈ xs, tdat (k + 2) x = true := fun x h => tdat_ge (bdat_tdat (hx x h)) (by omega)
        have b0 : ∀ b, tdat (k + 1 + 2) (.bool b) = true := fun _ => rfl
        have b1 : ∀ i, tdat (k + 1 + 2) (.int i) = true := fun _ => rfl
        have b2 : tdat (k + 1 + 2) .none = true := rfl
        have b3 : tdat (k + 1 + 2) (.str (Str.ofString "")) = true := tdat_ge (k := 2) (by decide +kernel) (by omega)
        have b4 : tdat (k + 1 + 2) (.str (Str.ofString "a")) = true := tdat_ge (k := 2) (by decide +kernel) (by omega)
        have b5 : tdat (k + 1 + 2) (.str (Str.ofString "A")) = true := tdat_ge (k := 2) (by decide +kernel) (by omega)
        have b6 : tdat (k + 1 + 2) (.tuple []) = true := tdat_ge (k := 2) (by decide +kernel) (by omega)
        have b7 : tdat (k + 1 + 2) (.tuple [.str (Str.ofString "a")]) = true := tdat_ge (k := 2) (by decide +kernel) (by omega)
        have b8 : tdat (k + 1 + 2) (.list [.int 1]) = true := tdat_ge (k := 2) (by decide +kernel) (by omega)
        have t1 : tdat (k + 1 + 2) (.list xs) = true := list_tdat (by omega) hx2
        have t2 : tdat (k + 1 + 2) (.tuple (xs ++ L3.cutD xs (some (-1)) none)) = true := tup_tdat (by rw [List.length_append]; omega) fun x h => (List.mem_append.mp h).elim (hx2 x) fun h => hx2 x (mA x h)
        have t3 : tdat (k + 1 + 2) (.tuple (L3.cutD xs none (some (-1)))) = true := tup_tdat (by omega) fun x h => hx2 x (mB x h)
        have t4 : tdat (k + 1 + 2) (.tuple xs.reverse) = true := tup_tdat (by rw [List.length_reverse]; omega) fun x h => hx2 x (List.mem_reverse.mp h)
        have t5 : tdat (k + 1 + 2) (.tuple (L3.cutD xs (some 1) none)) = true := tup_tdat (by omega) fun x h => hx2 x (mC x h)
        have t6 : tdat (k + 1 + 2) (.tuple [.tuple xs]) = true := tup_tdat (show 1 ≤ 1000000 by decide) fun x h => by
          rw [List.mem_singleton.mp h]
          exact tup_tdat (by omega) hx1
        rw [← List.all_eq_true (p := tdat (k + 1 + 2))]
        simp only [List.all_cons, List.all_nil, b0, b1, b2, b3, b4, b5, b6, b7, b8, t1, t2, t3, t4, t5, t6, Bool.and_true, Bool.true_and]
    | _ => cases h
theorem bdat_B {b : Bk} (gb : GB b) : bdat 3 (encB b) = true := by
  have tx : ∀ l, GT l → ∀ k, bdat k (.str (LB.st l)) = true := fun l g k => by
    have e : bdat k (.str (LB.st l)) = (decide ((LB.st l).length ≤ 60) && (LB.st l).cps.toList.all fun c => decide (c ≤ 126)) := by cases k <;> rfl
    rw [e, Bool.and_eq_true, decide_eq_true_eq, List.all_eq_true, LB.st_len]
    exact ⟨g.most, fun c h => decide_eq_true (g.sign c h).2⟩
  have tup : ∀ (k : Nat) (xs : List PyData), 1 ≤ xs.length → xs.length ≤ 100 → (∀ x ∈ xs, bdat k x = true) → bdat (k + 1) (.tuple xs) = true := fun k xs h1 h2 h3 => by
    show (decide (1 ≤ xs.length) && decide (xs.length ≤ 100) && xs.all (bdat k)) = true
    rw [Bool.and_eq_true, Bool.and_eq_true, decide_eq_true_eq, decide_eq_true_eq, List.all_eq_true]
    exact ⟨⟨h1, h2⟩, h3⟩
  have g1 := gb.one
  have g2 := gb.most
  refine tup 2 (b.map encC) (by rw [List.length_map]; omega) (by rw [List.length_map]; omega) fun x hx => ?_
  obtain ⟨c, hc, rfl⟩ := List.mem_map.mp hx
  have gc := gb.chaps c hc
  have g3 := gc.one
  have g4 := gc.most
  refine tup 1 [.str (LB.st c.1), .tuple (c.2.map LB.encT)] (show 1 ≤ 2 by decide) (show 2 ≤ 100 by decide) fun x hx => ?_
  rcases List.mem_cons.mp hx with rfl | hx
  · exact tx _ gc.title 1
  · rw [List.mem_singleton.mp hx]
    refine tup 0 (c.2.map LB.encT) (by rw [List.length_map]; omega) (by rw [List.length_map]; omega) fun x hx => ?_
    obtain ⟨t, ht, rfl⟩ := List.mem_map.mp hx
    exact tx t (gc.pars t ht) 0
theorem for_each {gg : PyData → Ev → R Ev} {g : Ev → R Out} {xs : List PyData} {e0 : Ev} {P : Out → Prop} (J : PyData → Prop) (I : Ev → Prop) (hJ : ∀ x ∈ xs, J x) (h0 : I e0)
    (hs : ∀ (x : PyData) (e : Ev), J x → I e → Ok (gg x e) fun e1 => Ok (g e1) fun o => ∃ e2, (o = .nx e2 ∨ o = .ct e2) ∧ I e2) (hp : ∀ e, I e → P (.nx e)) : Ok (forR gg g xs e0) P :=
  for_ok (fun _ => I) h0 (fun i h e k => hs _ e (hJ _ (List.getElem_mem h)) k) hp
def X61 : Str := LB.st (List.replicate 61 120)
theorem x61 : Txt.mul (Str.ofString "x") 61 = X61 := by
  rw [show Str.ofString "x" = LB.st [120] from rfl, LB.st_mul _ _ (by decide)]
  rfl
theorem xl : (Str.ofString "x").length ≤ 1000 := by decide +kernel
def Bad (x : PyData) : Prop := tdat 5 x = true ∧ isCh x = false
theorem tup1 {k : Nat} {x : PyData} (h : tdat k x = true) : tdat (k + 1) (.tuple [x]) = true := tup_tdat (show 1 ≤ 1000000 by decide) fun z hz => by rw [List.mem_singleton.mp hz]; exact h
theorem tup2 {k : Nat} {x y : PyData} (h : tdat k x = true) (h2 : tdat k y = true) : tdat (k + 1) (.tuple [x, y]) = true := tup_tdat (show 2 ≤ 1000000 by decide) fun z hz => by
  rcases List.mem_cons.mp hz with rfl | hz
  · exact h
  · rw [List.mem_singleton.mp hz]; exact h2
theorem ch_eq (a : PyData) (ts : List PyData) : isCh (.tuple [a, .tuple ts]) = (isTx' a && (decide (1 ≤ ts.length) && decide (ts.length ≤ 4) && ts.all isTx')) := rfl
theorem chF {a : PyData} {ts : List PyData} (h : isTx' a = false) : isCh (.tuple [a, .tuple ts]) = false := by rw [ch_eq, h, Bool.false_and]
theorem chG {a : PyData} {ts : List PyData} (h : ts.all isTx' = false) : isCh (.tuple [a, .tuple ts]) = false := by rw [ch_eq, h, Bool.and_false, Bool.and_false]
theorem bads : ∀ x ∈ ([PyData.str (Str.ofString ""), .str (Str.ofString " a"), .str (Str.ofString "a "), .str (Str.ofString "a  b"), .str (Str.ofString "a\n"), .str X61, .none, .int 5, .tuple [.str (Str.ofString "a")], .str (Str.ofString "\t")] : List PyData), tdat 3 x = true ∧ isTx' x = false := fun x hx => by
  have h : ([PyData.str (Str.ofString ""), .str (Str.ofString " a"), .str (Str.ofString "a "), .str (Str.ofString "a  b"), .str (Str.ofString "a\n"), .str X61, .none, .int 5, .tuple [.str (Str.ofString "a")], .str (Str.ofString "\t")] : List PyData).all (fun x => tdat 3 x && !isTx' x) = true := by decide +kernel
  have := List.all_eq_true.mp h x hx
  rw [Bool.and_eq_true, Bool.not_eq_true'] at this
  exact this
def X60 : Str := LB.st (List.replicate 60 120)
def Y60 : Str := LB.st (List.replicate 60 121)
theorem x60 : Txt.mul (Str.ofString "x") 60 = X60 := by
  rw [show Str.ofString "x" = LB.st [120] from rfl, LB.st_mul _ _ (by decide)]
  rfl
theorem y60 : Txt.mul (Str.ofString "y") 60 = Y60 := by
  rw [show Str.ofString "y" = LB.st [121] from rfl, LB.st_mul _ _ (by decide)]
  rfl
theorem yl : (Str.ofString "y").length ≤ 1000 := by decide +kernel
abbrev Gr : PyData := .tuple [.str X60, .tuple [.str Y60, .str Y60, .str Y60, .str Y60]]
theorem bk_is {d : PyData} {z : Bool} (h1 : tdat 5 d = true) (h2 : isBk d = z) : m_is_book [.val d] = .ok (.bool z) := by rw [book_any h1, h2]
theorem gr1 : m_is_book [.val (.tuple [Gr, Gr, Gr])] = .ok (.bool true) := bk_is (by decide +kernel) (by decide +kernel)
theorem gr2 : m_is_book [.val (.tuple [Gr, Gr, Gr, Gr])] = .ok (.bool false) := bk_is (by decide +kernel) (by decide +kernel)
theorem gr3 : m_is_book [.val (.tuple [])] = .ok (.bool false) := bk_is (by decide +kernel) (by decide +kernel)
theorem gr4 : m_is_book [.val .none] = .ok (.bool false) := bk_is (by decide +kernel) (by decide +kernel)
theorem gr5 : m_is_book [.val (.tuple [.tuple [.str (Str.ofString "a"), .tuple [.str (Str.ofString "~ !")]]])] = .ok (.bool true) := bk_is (by decide +kernel) (by decide +kernel)
theorem law_true (ns : List Int) (h : ns.length ≤ 63) : K01.m_law [.scr ns] = .ok (.bool true) := by
  refine Ok.eq ?_
  unfold K01.m_law K01.b_law
  simp_arith [range_len, Nat.reduceLeDiff]
  refine for_ok (fun i e => ∃ x1 x2 x3 x4 x5 x6 x7 x8 x9 x10 x11 x12 x13, e = [.scr ns, x1, x2, x3, x4, x5, x6, x7, x8, x9, x10, x11, x12, x13]) ⟨_, _, _, _, _, _, _, _, _, _, _, _, _, rfl⟩ (fun i hi e he => ?_) fun e he => ?_
  · obtain ⟨x1, x2, x3, x4, x5, x6, x7, x8, x9, x10, x11, x12, x13, rfl⟩ := he
    rw [range_get]
    obtain ⟨c, hc⟩ := cell_ok ns (i : Int) (by omega)
    obtain ⟨c9, hc9⟩ := cell_ok ns 9 (by decide)
    obtain ⟨_, hb, b, gb, rfl⟩ := law_book_ok (c + 3 * (i : Int))
    have hbd := bdat_B gb
    have hbt := bdat_tdat hbd
    have hlb : m_is_book [.val (.list (b.map encC))] = .ok (.bool false) := book_any (k := 3) (d := .list (b.map encC)) hbt
    simp_arith [hc, hb, is_book_ok gb, show listD (encB b) = .ok (.list (b.map encC)) from rfl, hlb]
    refine Ok.mono (P := fun o => ∃ x5 x9 x12 x13, o = Out.nx [.scr ns, .val (.int (i : Int)), x2, .val (.int (c + 3 * (i : Int))), .val (encB b), x5, x6, x7, x8, x9, x10, x11, x12, x13]) ?_ ?_
    · refine for_ok (fun j e => ∃ x5 x9 x12 x13, e = [.scr ns, .val (.int (i : Int)), x2, .val (.int (c + 3 * (i : Int))), .val (encB b), x5, x6, x7, x8, x9, x10, x11, x12, x13]) ⟨_, _, _, _, rfl⟩ (fun j hj e he => ?_) fun e he => ?_
      · obtain ⟨x5, x9, x12, x13, rfl⟩ := he
        rw [range_get]
        simp_arith [hc9]
        refine Ok.mono (odd_ok 3 (encB b) (c9 + 17 * (j : Int) + 3 * (i : Int)) 8 hbd (by omega) (by omega)) fun d hd => ?_
        have h1 := book_any hd
        have h2 := lbook_any (by omega) hd
        simp_arith [h1, h2]
        cases isBk d with
        | true => exact ⟨_, rfl, _, rfl, _, rfl, _, .inl rfl, _, _, _, _, rfl⟩
        | false => exact ⟨_, rfl, _, rfl, _, rfl, _, .inl rfl, _, _, _, _, rfl⟩
      · obtain ⟨x5, x9, x12, x13, rfl⟩ := he
        exact ⟨_, _, _, _, rfl⟩
    · rintro _ ⟨x5, x9, x12, x13, rfl⟩
      have g1 := gb.one
      obtain ⟨a, ha⟩ := Int.eq_ofNat_of_zero_le (mixZ_nn (c + 3 * (i : Int)) 9857 (m := (b.length : Int)) (by omega))
      have ha2 := mixZ_lt (c + 3 * (i : Int)) 9857 (m := (b.length : Int)) (by omega)
      rw [ha] at ha2
      have ha3 : a < b.length := by omega
      have gc := gb.chap ha3
      have hix : ixD (encB b) (.int (a : Int)) = .ok (.tuple [.str (LB.st (cp b a).1), .tuple ((cp b a).2.map LB.encT)]) := ix_B ha3
      have q1 := gc.one
      have q2 := gc.most
      have q3 := gc.pars
      have q4 := gc.title
      generalize (cp b a).2 = ps at hix q1 q2 q3
      generalize (cp b a).1 = tt at hix q4
      obtain ⟨p0, r, rfl⟩ : ∃ p0 r, ps = p0 :: r := by
        cases ps with
        | nil => exact absurd q1 (by decide)
        | cons p0 r => exact ⟨p0, r, rfl⟩
      have q2' : r.length ≤ 3 := by rw [List.length_cons] at q2; omega
      simp_arith [len_B, mix_ok (c + 3 * (i : Int)) 9857 (b.length : Int) (by decide) (by decide) (by omega), ha, hix, List.map_cons, at_0]
      rw [if_pos (List.cons_ne_nil _ _)]
      rw [if_pos xl, x61]
      have hbad := bads
      have hbl : ([PyData.str (Str.ofString ""), .str (Str.ofString " a"), .str (Str.ofString "a "), .str (Str.ofString "a  b"), .str (Str.ofString "a\n"), .str X61, .none, .int 5, .tuple [.str (Str.ofString "a")], .str (Str.ofString "\t")] : List PyData).length = 10 := rfl
      simp_arith []
      generalize ([PyData.str (Str.ofString ""), .str (Str.ofString " a"), .str (Str.ofString "a "), .str (Str.ofString "a  b"), .str (Str.ofString "a\n"), .str X61, .none, .int 5, .tuple [.str (Str.ofString "a")], .str (Str.ofString "\t")] : List PyData) = BL at hbad hbl ⊢
      have hT : isTx' (.str (LB.st tt)) = true := (isT_iff tt).mpr q4
      have tT : ∀ k, tdat k (.str (LB.st tt)) = true := fun k => str_tdat k (by have := q4.most; omega) fun c h => (q4.sign c h).2
      have tP : ∀ t ∈ p0 :: r, ∀ k, tdat k (LB.encT t) = true := fun t ht k => str_tdat k (by have := (q3 t ht).most; omega) fun c h => ((q3 t ht).sign c h).2
      have tPs : ∀ k, tdat (k + 1) (.tuple (LB.encT p0 :: r.map LB.encT)) = true := fun k => tup_tdat (by rw [List.length_cons, List.length_map]; omega) fun x hx => by
        obtain ⟨t, ht, rfl⟩ := List.mem_map.mp (show x ∈ (p0 :: r).map LB.encT from hx)
        exact tP t ht k
      refine Ok.mono (P := fun o => ∃ L x8, (∀ x ∈ L, Bad x) ∧ L.length ≤ 1000000 ∧ o = Out.nx [.scr ns, .val (.int (i : Int)), x2, .val (.int (c + 3 * (i : Int))), .val (encB b), x5, .val (.int (a : Int)), .val (.list L), x8, x9, .val (.str (LB.st tt)), .val (.tuple (LB.encT p0 :: r.map LB.encT)), x12, x13]) ?_ ?_
      · refine for_ok (fun j e => ∃ L x8, (∀ x ∈ L, Bad x) ∧ L.length ≤ 14 + 2 * j ∧ e = [.scr ns, .val (.int (i : Int)), x2, .val (.int (c + 3 * (i : Int))), .val (encB b), x5, .val (.int (a : Int)), .val (.list L), x8, x9, .val (.str (LB.st tt)), .val (.tuple (LB.encT p0 :: r.map LB.encT)), x12, x13]) ⟨_, x8, ?_, by simp, rfl⟩ (fun j hj e he => ?_) fun e he => ?_
        · intro x hx
          simp only [List.mem_cons, List.not_mem_nil, or_false] at hx
          have e0 : tdat 4 (.tuple []) = true := by decide +kernel
          rcases hx with rfl | rfl | rfl | rfl | rfl | rfl | rfl | rfl | rfl | rfl | rfl | rfl | rfl | rfl
          · exact ⟨rfl, rfl⟩
          · exact ⟨rfl, rfl⟩
          · exact ⟨by decide +kernel, rfl⟩
          · exact ⟨by decide +kernel, rfl⟩
          · exact ⟨tup1 (tT 4), rfl⟩
          · exact ⟨tup2 (tT 4) e0, by show (isTx' (.str (LB.st tt)) && (decide (1 ≤ 0) && decide (0 ≤ 4) && List.all [] isTx')) = false; rw [hT]; rfl⟩
          · exact ⟨tup2 (tT 4) (by
              have := tPs 3
              exact this), rfl⟩
          · exact ⟨list_tdat (show 2 ≤ 1000000 by decide) fun z hz => by
              rcases List.mem_cons.mp hz with rfl | hz
              · exact tT 4
              · rw [List.mem_singleton.mp hz]; exact tPs 3, rfl⟩
          · exact ⟨tup_tdat (show 3 ≤ 1000000 by decide) fun z hz => by
              rcases List.mem_cons.mp hz with rfl | hz
              · exact tT 4
              · rcases List.mem_cons.mp hz with rfl | hz
                · exact tPs 3
                · rw [List.mem_singleton.mp hz]; rfl, rfl⟩
          · exact ⟨tup2 (tT 4) (tP p0 List.mem_cons_self 4), rfl⟩
          · exact ⟨tup2 (tT 4) (tup_tdat (show 5 ≤ 1000000 by decide) fun z hz => by
              simp only [List.mem_cons, List.not_mem_nil, or_false, or_self] at hz
              rw [hz]; exact tP p0 List.mem_cons_self 3), by show (isTx' (.str (LB.st tt)) && (decide (1 ≤ 5) && decide (5 ≤ 4) && List.all [LB.encT p0, LB.encT p0, LB.encT p0, LB.encT p0, LB.encT p0] isTx')) = false; rw [hT]; rfl⟩
          · exact ⟨tup2 rfl (tPs 3), rfl⟩
          · exact ⟨tup2 (by decide +kernel) (tPs 3), chF (by decide +kernel)⟩
          · exact ⟨tup2 rfl (tPs 3), rfl⟩
        · obtain ⟨L, x8, hL, hl, rfl⟩ := he
          obtain ⟨ty, by_⟩ := hbad _ (List.getElem_mem hj)
          generalize BL[j] = y at ty by_ ⊢
          have c1 := cut_le (LB.encT p0 :: r.map LB.encT) none (some 3)
          have c2 : ∀ x ∈ L3.cutD (LB.encT p0 :: r.map LB.encT) none (some 3), tdat 3 x = true := fun x hx => by
            obtain ⟨t, ht, rfl⟩ := List.mem_map.mp (show x ∈ (p0 :: r).map LB.encT from cut_mem hx)
            exact tP t ht 3
          have c1 : (L3.cutD (LB.encT p0 :: r.map LB.encT) none (some 3)).length ≤ 4 := by
            rw [List.length_cons, List.length_map] at c1
            omega
          simp_arith [show (L3.cutD (LB.encT p0 :: r.map LB.encT) none (some 3)).length ≤ 999999 by omega, show L.length ≤ 999998 by omega]
          refine ⟨_, .inl rfl, _, _, fun x hx => ?_, by rw [List.length_append]; show L.length + 2 ≤ _; omega, rfl⟩
          rcases List.mem_append.mp hx with hx | hx
          · exact hL x hx
          · rcases List.mem_cons.mp hx with rfl | hx
            · exact ⟨tup2 (tdat_ge ty (by omega)) (tPs 3), chF by_⟩
            · rw [List.mem_singleton.mp hx]
              refine ⟨tup2 (tT 4) (tup_tdat (by rw [List.length_append]; show _ + 1 ≤ _; omega) fun z hz => ?_), chG ?_⟩
              · rcases List.mem_append.mp hz with hz | hz
                · exact c2 z hz
                · rw [List.mem_singleton.mp hz]; exact ty
              · rw [List.all_append, List.all_cons, by_, Bool.false_and, Bool.and_false]
        · obtain ⟨L, x8, hL, hl, rfl⟩ := he
          exact ⟨_, _, hL, by omega, rfl⟩
      · rintro _ ⟨L, x8, hL, hl, rfl⟩
        simp_arith [hl]
        have gm := gb.most
        have d1 : sliceD (encB b) none (some (a : Int)) = .ok (.tuple (L3.cutD (b.map encC) none (some (a : Int)))) := rfl
        have d2 : sliceD (encB b) (some ((a : Int) + 1)) none = .ok (.tuple (L3.cutD (b.map encC) (some ((a : Int) + 1)) none)) := rfl
        have hbt' : ∀ x ∈ b.map encC, tdat 5 x = true := fun x hx => by
          obtain ⟨_, j, e, hh⟩ := tdat_tup (k := 3) (xs := b.map encC) hbt
          exact tdat_ge (hh x hx) (by omega)
        have cA := cut_le (b.map encC) none (some (a : Int))
        have cB := cut_le (b.map encC) (some ((a : Int) + 1)) none
        rw [List.length_map] at cA cB
        have mA : ∀ x ∈ L3.cutD (b.map encC) none (some (a : Int)), tdat 5 x = true := fun x hx => hbt' x (cut_mem hx)
        have mB : ∀ x ∈ L3.cutD (b.map encC) (some ((a : Int) + 1)) none, tdat 5 x = true := fun x hx => hbt' x (cut_mem hx)
        generalize L3.cutD (b.map encC) none (some (a : Int)) = A at d1 cA mA
        generalize L3.cutD (b.map encC) (some ((a : Int) + 1)) none = B at d2 cB mB
        refine for_each (fun x => Bad x) (fun e => ∃ x8, e = [.scr ns, .val (.int (i : Int)), x2, .val (.int (c + 3 * (i : Int))), .val (encB b), x5, .val (.int (a : Int)), .val (.list L), x8, x9, .val (.str (LB.st tt)), .val (.tuple (LB.encT p0 :: r.map LB.encT)), x12, x13]) hL ⟨_, rfl⟩ (fun y e hy he => ?_) fun e he => ?_
        · obtain ⟨x8, rfl⟩ := he
          obtain ⟨ty, by_⟩ := hy
          have hbk : m_is_book [.val (.tuple (A ++ [y] ++ B))] = .ok (.bool false) := by
            rw [book_any (k := 6) (tup_tdat (by rw [List.length_append, List.length_append]; show A.length + 1 + B.length ≤ _; omega) fun z hz => by
              rcases List.mem_append.mp hz with hz | hz
              · rcases List.mem_append.mp hz with hz | hz
                · exact mA z hz
                · rw [List.mem_singleton.mp hz]; exact ty
              · exact mB z hz)]
            have : isBk (.tuple (A ++ [y] ++ B)) = false := by
              show (_ && (A ++ [y] ++ B).all isCh) = false
              rw [List.all_append, List.all_append, List.all_cons, by_, Bool.false_and, Bool.and_false, Bool.false_and, Bool.and_false]
            rw [this]
          simp_arith [d1, d2, show A.length ≤ 999999 by omega, List.length_append, List.length_cons, List.length_nil, show A.length + 1 + B.length ≤ 1000000 by omega, hbk]
          exact ⟨_, .inl rfl, _, rfl⟩
        · obtain ⟨x8, rfl⟩ := he
          exact ⟨_, .inl rfl, _, _, _, _, _, _, _, _, _, _, _, _, _, rfl⟩
  · obtain ⟨x1, x2, x3, x4, x5, x6, x7, x8, x9, x10, x11, x12, x13, rfl⟩ := he
    have ne1 : ∀ x : PyData, (([x] : List PyData) = []) = False := fun x => propext ⟨fun h => List.cons_ne_nil _ _ h, False.elim⟩
    simp_arith [xl, yl, x60, y60, ne1, not_false_eq_true, gr1, gr2, gr3, gr4, gr5]
end K01

namespace L3
open PySem PySem.Spec PyProof.Rows L2
/-! ### the end -/
theorem walk_ofW {l : PySem.W.OpenLaw} {n k : Nat} {q : Program} {loose : List Str} {XP : (Str → Option Value) → Heap → Prop} {YP : World → Heap → Prop} {d : DefRec} {x : Str}
    (hn : l.most = some n) (hn2 : n ≤ sizeLine) (hdf : d.params.defaults = []) (hr : Room k callerA)
    (F : ∀ (w : World) (mg : Str → Option Value) (fa : Addr) (h : Heap), YP w h → h.Ns mainGlobals mg → mg d.name = some (.ref fa) →
      ∃ (K : PySem.W.Frag) (fd : FuncData) (sp : Sp), K.In h ∧ (∀ (s : Shared) (u : Value), BindsTo s fd ⟨[u], []⟩ [(x, u)]) ∧
        (∀ (H : Hp) (a : Addr) (ns : List Int), ns.length ≤ n → Only H → SqL K H a (ns.map V.int) → sp [.ref a] H (fun v _ => v = .bl true) fun _ _ _ => False) ∧
        ∀ base : Heap, K.In base → base.Ns mainGlobals mg → FnOk l.prog w K mg base (L2.CX l.prog w) k fa fd [x] sp) :
    PySem.W.WalkO q loose XP YP l.row.toRowW d [] (fun f vs => PySem.call f vs) := by
  refine Att.attach_call hn hdf fun w s₀ s₁ mg mb fa o pm cd doc a vs ns G Y ho hd hcd hmg hobj hints hlen hg => ?_
  obtain ⟨K, fd, sp, KX, hb, hsp, hF⟩ := F w mg fa _ Y G.T.g hmg
  exact law_call KX G.T.g G.T.b G.T.builtins G.T.nolimit hg hobj hints (Nat.le_trans hlen hn2) hr hF hb (fun H hO hS => hsp H a ns hlen hO hS) fun H e s' z => by
    obtain ⟨_, _, _, _, _, _, _, _, _, _, _, _, z⟩ := z
    exact z
theorem law_end {K : PySem.W.Frag} {mg : Str → Option Value} {H : Hp} {a : Addr} {ns : List Int} {m : List Sl → R PyData} (hO : Only H) (hS : SqL K H a (ns.map V.int)) (h : m [.scr ns] = .ok (.bool true)) :
    spD K mg m 1 [.ref a] H (fun v _ => v = .bl true) fun _ _ _ => False := by
  refine ⟨fun _ => none, [.scr ns], (fun _ _ z => by cases z), ⟨⟨a, rfl, ?_⟩, trivial, trivial⟩, rfl, ?_⟩
  · rcases hS with (e | ⟨o, e⟩) | e
    · rcases hO a with z | ⟨o, xs, z⟩
      · rw [e] at z; cases z
      · rw [e] at z; cases z
    · exact .inl ⟨o, e⟩
    · exact .inr (.inr e)
  · rw [h]
    intro v F' H' g q
    cases q
    rfl
/-! ### the head's facts, and more of one's own -/
abbrev Px := List (PySem.W.Frag → Bool)
def obsP (fa : List He.Fa) (fn : List He.DefD) (px : Px) (K : PySem.W.Frag) : He.AlD × Bool := (He.obsD fa fn K, px.all fun f => f K)
def SaysP (fa : List He.Fa) (fn : List He.DefD) (px : Px) (K : PySem.W.Frag) : Prop := obsP fa fn px K = (He.valD fn, true)
def obsPG (n : Nat) (fa : List He.Fa) (fn : List He.DefD) (px : Px) (g : Addr → Option Obj) : He.AlD × Bool := obsP fa fn px (He.frG g (He.asD g n))
def hookP (n : Nat) (fa : List He.Fa) (fn : List He.DefD) (px : Px) : PySem.W.Hook where
  α := He.AlD × Bool
  obs := fun s => obsPG n fa fn px s.heap.get?
  val := fun _ => (He.valD fn, true)
  says := fun _ h => ∃ K : PySem.W.Frag, K.In h ∧ SaysP fa fn px K
  of := fun _ _ e => ⟨_, He.frG_in, e⟩
  keeps := fun _ _ _ ⟨K, hK, c⟩ k => ⟨K, PySem.W.Frag.In.keeps hK k, c⟩
theorem obsPG_eq {n : Nat} {fa : List He.Fa} {fn : List He.DefD} {px : Px} {g : Addr → Option Obj} {s : Shared} (h : ∀ a, g a = s.heap.get? a) : obsPG n fa fn px g = (hookP n fa fn px).obs s := by
  have e : g = s.heap.get? := funext h
  rw [e] <;> rfl
section
variable {fa : List He.Fa} {fn : List He.DefD} {px : Px} {K : PySem.W.Frag}
theorem SaysP.d (c : SaysP fa fn px K) : He.SaysD fa fn K := congrArg (fun z : He.AlD × Bool => z.1) c
theorem SaysP.p (c : SaysP fa fn px K) (i : Nat) {f : PySem.W.Frag → Bool} (h : px[i]? = some f) : f K = true :=
  List.all_eq_true.mp (show (px.all fun f => f K) = true from congrArg (fun z : He.AlD × Bool => z.2) c) f (List.mem_of_getElem? h)
end
/-- what is asked of the exceptions' classes -/
def exC (K : PySem.W.Frag) (c : Str) : Bool :=
  He.eqO (PySem.W.nsIn K mainGlobals c) (some (some (.ref (He.ga K c)))) &&
  (He.eqO (PySem.W.findIn K (.ref (He.ga K c)) "__getattribute__") (some (some (.builtin "BaseException.__getattribute__"))) &&
  (He.eqO (PySem.W.findIn K (.ref (He.ga K c)) "__getattr__") (some none) &&
  (decide (PySem.W.subIn K (.ref (He.ga K c)) (.type "BaseException") = some true) &&
  (PySem.W.hasDictIn K (He.ga K c) &&
  (He.eqO (PySem.W.findIn K (.ref (He.ga K c)) "__class__") (some (some (.builtin "object.__class__"))) &&
  (He.eqO (PySem.W.specialIn K (.builtin "object.__class__") "__get__") (some (some (.builtin "getset_descriptor.__get__"))) &&
  (decide (PySem.W.takesIn K (.builtin "object.__class__") = some true) &&
  (decide (PySem.W.mroIn K (He.ga K c) (.type "object") = some true) &&
  (decide (PySem.W.exmOne K (.ref (He.ga K c)) (.ref (He.ga K "BookError")) = some true) &&
  (decide (PySem.W.kitOne K (.ref (He.ga K c)) (.type "ValueError") = some true) &&
  EXS.all fun x => decide (PySem.W.kitOne K (.ref (He.ga K c)) (.ref (He.ga K x)) = some (c == x))))))))))))
def exB (K : PySem.W.Frag) : Bool := He.eqO (PySem.W.nsIn K mainGlobals "BookError") (some (some (.ref (He.ga K "BookError")))) && EXS.all fun c => exC K c
theorem exB_ok {K : PySem.W.Frag} {h : Heap} {mg : Mg} (X : K.In h) (G : h.Ns mainGlobals mg) (c : exB K = true) : ExcT K mg := by
  obtain ⟨hb, c⟩ := He.ba c
  have c := fun x hx => List.all_eq_true.mp c x hx
  have g : ∀ x ∈ EXS, mg x = some (.ref (He.ga K x)) := fun x hx => PySem.W.mg_of X G (He.eqO_ok (He.ba (c x hx)).1)
  have gb : mg "BookError" = some (.ref (He.ga K "BookError")) := PySem.W.mg_of X G (He.eqO_ok hb)
  refine ⟨fun x hx => ⟨_, g x hx, ?_⟩, ⟨_, gb, fun x hx => ?_⟩, fun x hx y hy => ?_, fun x hx => ?_⟩
  all_goals
    obtain ⟨_, q⟩ := He.ba (c x hx)
    obtain ⟨q1, q⟩ := He.ba q
    obtain ⟨q2, q⟩ := He.ba q
    obtain ⟨q3, q⟩ := He.ba q
    obtain ⟨q4, q⟩ := He.ba q
    obtain ⟨q5, q⟩ := He.ba q
    obtain ⟨q6, q⟩ := He.ba q
    obtain ⟨q7, q⟩ := He.ba q
    obtain ⟨q8, q⟩ := He.ba q
    obtain ⟨q9, q⟩ := He.ba q
    obtain ⟨q10, q⟩ := He.ba q
  · exact ⟨He.eqO_ok q1, He.eqO_ok q2, of_decide_eq_true q3, q4, He.eqO_ok q5, He.eqO_ok q6, of_decide_eq_true q7, of_decide_eq_true q8⟩
  · rw [cav_some (g x hx)]; exact of_decide_eq_true q9
  · rw [cav_some (g x hx), cav_some (g y hy)]; exact of_decide_eq_true (List.all_eq_true.mp q y hy)
  · rw [cav_some (g x hx)]; exact of_decide_eq_true q10
end L3

namespace K01
open PySem PySem.Spec PyProof.Rows L2 L3 LB
/-! ### the head -/
def dd_is_text : He.DefD := ⟨("is_text", none), "is_text", "is_text", defArgs s_is_text, defBody s_is_text, defScope s_is_text, [], []⟩
def dd_is_chapter : He.DefD := ⟨("is_chapter", none), "is_chapter", "is_chapter", defArgs s_is_chapter, defBody s_is_chapter, defScope s_is_chapter, [], []⟩
def dd_is_book : He.DefD := ⟨("is_book", none), "is_book", "is_book", defArgs s_is_book, defBody s_is_book, defScope s_is_book, [], []⟩
def dd_law_cell : He.DefD := ⟨("_law_cell", none), "_law_cell", "_law_cell", defArgs s_law_cell, defBody s_law_cell, defScope s_law_cell, [], []⟩
def dd_law_mix : He.DefD := ⟨("_law_mix", none), "_law_mix", "_law_mix", defArgs s_law_mix, defBody s_law_mix, defScope s_law_mix, [], []⟩
def dd_law_same : He.DefD := ⟨("_law_same", none), "_law_same", "_law_same", defArgs s_law_same, defBody s_law_same, defScope s_law_same, [], []⟩
def dd_law_text : He.DefD := ⟨("_law_text", none), "_law_text", "_law_text", defArgs s_law_text, defBody s_law_text, defScope s_law_text, [], []⟩
def dd_law_book : He.DefD := ⟨("_law_book", none), "_law_book", "_law_book", defArgs s_law_book, defBody s_law_book, defScope s_law_book, [], []⟩
def dd_law_odd : He.DefD := ⟨("_law_odd", none), "_law_odd", "_law_odd", defArgs s_law_odd, defBody s_law_odd, defScope s_law_odd, [], []⟩
def dd_law_is_text : He.DefD := ⟨("_law_is_text", none), "_law_is_text", "_law_is_text", defArgs s_law_is_text, defBody s_law_is_text, defScope s_law_is_text, [], []⟩
def dd_law_is_book : He.DefD := ⟨("_law_is_book", none), "_law_is_book", "_law_is_book", defArgs s_law_is_book, defBody s_law_is_book, defScope s_law_is_book, [], []⟩
def dd_law : He.DefD := ⟨("law", none), "law", "law", defArgs s_law, defBody s_law, defScope s_law, [], []⟩
def fns : List He.DefD := [dd_is_text, dd_is_chapter, dd_is_book, dd_law_cell, dd_law_mix, dd_law_same, dd_law_text, dd_law_book, dd_law_odd, dd_law_is_text, dd_law_is_book, dd_law]
def fas : List He.Fa := [.glo "is_text", .glo "is_chapter", .glo "is_book", .glo "_law_cell", .glo "_law_mix", .glo "_law_same", .glo "_law_text", .glo "_law_book", .glo "_law_odd", .glo "_law_is_text", .glo "_law_is_book", .glo "law", .free "all", .free "bool", .free "int", .free "isinstance", .free "len", .free "list", .free "range", .free "str", .free "tuple", .free "zip"]
abbrev RW : PySem.W.OpenRow := PySem.W.OpenLaw.row PySem.Challenge.rw_longbook_k01_books
def px : List (PySem.W.Frag → Bool) := []
abbrev hk : PySem.W.Hook := hookP 4 fas fns px
def ob (s : PySem.W.SharedT) : He.AlD × Bool := obsPG 4 fas fns px (HandSHeadRun.getT s)
theorem ob_eq (s : PySem.W.SharedT) : ob s = hk.obs s.abs := obsPG_eq (HandSHeadRun.getT_eq s)
def loose : List PySem.Str := ("is_text" : PySem.Str) :: ("is_chapter" : PySem.Str) :: ("is_book" : PySem.Str) :: ("_law_cell" : PySem.Str) :: ("_law_mix" : PySem.Str) :: ("_law_same" : PySem.Str) :: ("_law_text" : PySem.Str) :: ("_law_book" : PySem.Str) :: ("_law_odd" : PySem.Str) :: ("_law_is_text" : PySem.Str) :: ("_law_is_book" : PySem.Str) :: []
theorem run (w : World) : HandSHeadRun.RunEq RW (PySem.W.view RW.prog [13]) hk ob 6000 loose w := by
  intro os
  kernel_rfl
theorem facts {P : Program} {w : World} {K : PySem.W.Frag} {h : Heap} {mg : Str → Option Value} {f : Addr} (X : K.In h) (G : h.Ns mainGlobals mg) (hfa : mg ("law" : Str) = some (.ref f)) (c0 : SaysP fas fns px K) :
    ∃ fd : FuncData, (∀ (s : Shared) (v : Value), BindsTo s fd ⟨[v], []⟩ [("_law_script", v)]) ∧ ∀ base : Heap, K.In base → base.Ns mainGlobals mg → Fn P w K mg base 11 f fd ["_law_script"] m_law := by
  have c := c0.d
  obtain ⟨fd_is_text, F_is_text⟩ := c.def_ 0 (d := dd_is_text) rfl
  obtain ⟨fd_is_chapter, F_is_chapter⟩ := c.def_ 1 (d := dd_is_chapter) rfl
  obtain ⟨fd_is_book, F_is_book⟩ := c.def_ 2 (d := dd_is_book) rfl
  obtain ⟨fd_law_cell, F_law_cell⟩ := c.def_ 3 (d := dd_law_cell) rfl
  obtain ⟨fd_law_mix, F_law_mix⟩ := c.def_ 4 (d := dd_law_mix) rfl
  obtain ⟨fd_law_same, F_law_same⟩ := c.def_ 5 (d := dd_law_same) rfl
  obtain ⟨fd_law_text, F_law_text⟩ := c.def_ 6 (d := dd_law_text) rfl
  obtain ⟨fd_law_book, F_law_book⟩ := c.def_ 7 (d := dd_law_book) rfl
  obtain ⟨fd_law_odd, F_law_odd⟩ := c.def_ 8 (d := dd_law_odd) rfl
  obtain ⟨fd_law_is_text, F_law_is_text⟩ := c.def_ 9 (d := dd_law_is_text) rfl
  obtain ⟨fd_law_is_book, F_law_is_book⟩ := c.def_ 10 (d := dd_law_is_book) rfl
  obtain ⟨fd_law, F_law⟩ := c.def_ 11 (d := dd_law) rfl
  have g_is_text := He.glo_ok X G (c.fact 0 (f := .glo "is_text") rfl)
  have g_is_chapter := He.glo_ok X G (c.fact 1 (f := .glo "is_chapter") rfl)
  have g_is_book := He.glo_ok X G (c.fact 2 (f := .glo "is_book") rfl)
  have g_law_cell := He.glo_ok X G (c.fact 3 (f := .glo "_law_cell") rfl)
  have g_law_mix := He.glo_ok X G (c.fact 4 (f := .glo "_law_mix") rfl)
  have g_law_same := He.glo_ok X G (c.fact 5 (f := .glo "_law_same") rfl)
  have g_law_text := He.glo_ok X G (c.fact 6 (f := .glo "_law_text") rfl)
  have g_law_book := He.glo_ok X G (c.fact 7 (f := .glo "_law_book") rfl)
  have g_law_odd := He.glo_ok X G (c.fact 8 (f := .glo "_law_odd") rfl)
  have g_law_is_text := He.glo_ok X G (c.fact 9 (f := .glo "_law_is_text") rfl)
  have g_law_is_book := He.glo_ok X G (c.fact 10 (f := .glo "_law_is_book") rfl)
  have g_law := He.glo_ok X G (c.fact 11 (f := .glo "law") rfl)
  have T : Txt mg := ⟨He.free_ok X G (c.fact 12 (f := .free "all") rfl), He.free_ok X G (c.fact 13 (f := .free "bool") rfl), He.free_ok X G (c.fact 14 (f := .free "int") rfl), He.free_ok X G (c.fact 15 (f := .free "isinstance") rfl), He.free_ok X G (c.fact 16 (f := .free "len") rfl), He.free_ok X G (c.fact 17 (f := .free "list") rfl), He.free_ok X G (c.fact 18 (f := .free "range") rfl), He.free_ok X G (c.fact 19 (f := .free "str") rfl), He.free_ok X G (c.fact 20 (f := .free "tuple") rfl), He.free_ok X G (c.fact 21 (f := .free "zip") rfl)⟩
  have e := hfa.symm.trans g_law
  cases e
  have b := FunD.bindsA (ps := ["_law_script"]) F_law fun _ _ _ _ _ _ us hl => match us, hl with | [_], _ => rfl
  refine ⟨fd_law, fun s v => b s [v] rfl, fun base _ _ => ?_⟩
  have C_is_text := c_is_text (P := P) (w := w) (base := base) T F_is_text g_is_text  
  have C_is_chapter := c_is_chapter (P := P) (w := w) (base := base) T F_is_chapter g_is_chapter C_is_text 
  have C_is_book := c_is_book (P := P) (w := w) (base := base) T F_is_book g_is_book C_is_chapter 
  have C_law_cell := c_law_cell (P := P) (w := w) (base := base) T F_law_cell g_law_cell  
  have C_law_mix := c_law_mix (P := P) (w := w) (base := base) T F_law_mix g_law_mix  
  have C_law_same := cr_law_same (P := P) (w := w) (base := base) T F_law_same g_law_same   8
  have C_law_text := c_law_text (P := P) (w := w) (base := base) T F_law_text g_law_text C_law_mix 
  have C_law_book := c_law_book (P := P) (w := w) (base := base) T F_law_book g_law_book C_law_mix C_law_text 
  have C_law_odd := cr_law_odd (P := P) (w := w) (base := base) T F_law_odd g_law_odd C_law_mix  8
  have C_law_is_text := c_law_is_text (P := P) (w := w) (base := base) T F_law_is_text g_law_is_text  
  have C_law_is_book := c_law_is_book (P := P) (w := w) (base := base) T F_law_is_book g_law_is_book C_law_is_text 
  exact c_law (P := P) (w := w) (base := base) T F_law g_law C_law_cell C_law_book C_is_book C_law_odd C_law_is_book C_law_mix 
end K01
open PySem PySem.W PySem.Calls PyProof.Rows
theorem PySem.Challenge.cw_longbook_k01_books_holds : PySem.Challenge.rw_longbook_k01_books.Holds := by
  w_on; o_law
  refine HandSHeadRun.head_any (r := OpenLaw.row PySem.Challenge.rw_longbook_k01_books) (q := view (OpenLaw.row PySem.Challenge.rw_longbook_k01_books).prog [13]) (H := K01.hk) (ob := K01.ob) (M := 6000) (loose := K01.loose) (d := HandSHeadRun.topDef (OpenLaw.row PySem.Challenge.rw_longbook_k01_books).prog 13) (kwd := []) K01.ob_eq
    (by kernel_rfl) (fun s => by kernel_rfl) K01.run (by kernel_rfl) (by kernel_rfl) (by kernel_rfl) (by rfl) (by first | assumption | decide +kernel) (by decide +kernel) ⟨rfl, rfl, rfl, rfl, rfl, by decide +kernel⟩ ?hw ?hc
  case hw => w_witness2
  case hc =>
    refine L3.walk_ofW (l := PySem.Challenge.rw_longbook_k01_books) (n := 63) (k := 11) (x := "_law_script") rfl (by decide) (by kernel_rfl) ⟨rfl, by decide, by decide⟩ ?F
    intro w mg fa h Y G hmg0
    obtain ⟨K, KX, c⟩ := Y
    have hmg : mg ("law" : PySem.Str) = some (.ref fa) := by
      have e : (HandSHeadRun.topDef (OpenLaw.row PySem.Challenge.rw_longbook_k01_books).prog 13).name = ("law" : PySem.Str) := by kernel_rfl
      rw [← e]
      exact hmg0
    obtain ⟨fd, hb, hF⟩ := K01.facts (P := (PySem.Challenge.rw_longbook_k01_books).prog) (w := w) KX G hmg c
    exact ⟨K, fd, L3.spD K mg K01.m_law 1, KX, hb, fun H a ns hl hO hS => L3.law_end hO hS (K01.law_true ns hl), hF⟩

