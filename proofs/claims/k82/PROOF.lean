import PyProof.Rows.All
import HandS.ForMost
import HandS.Exc
import HandS.ExcOwn
import HandS.WordsExc
import HandS.Lambda
import HandS.Nested
import HandS.Flow
import HandS.IsInst
import HandS.TupAny
import HandS.SortInts
import HandS.TupLe
import HandS.Wide
import HandS.Star
import HandS.CallSlots
import HandS.Zip
import KE.GoesMore
import KE.KNest
import HandS.List
import HandS.Style
import HandS.Defaults
import HandS.HeadWalk
import HandS.HeadHook1
import HandS.HeadHook2
import HandS.HeadHook3
import HandS.HeadHook4
import HandS.Codes
import KE.KEqDat
import HandS.Head0
import HandS.Head1
import HandS.Head2
import HandS.HeadEnd
import PySem.Challenge.RW_shiftranges_k82_whole_texts_of_two_group
import HandS.Text
set_option Elab.async false
set_option linter.all false
section
set_option maxRecDepth 100000
set_option maxHeartbeats 4000000
/-! RxA: data, the store, runs of the mirror; how they lie in the layer's abstract heap; the readings of mirrors. -/
namespace Rx
open PySem PySem.Spec PyProof.Rows L2

/-- data: what the mirrors reckon with. loc n: the n-th thing of the store; glo a: a def or class of the top; clo: a lambda with what it captured -/
inductive D where
  | non | bl (b : Bool) | int (i : Int) | str (s : Str)
  | tup (ds : List D) | lst (ds : List D)
  | loc (n : Nat) | glo (a : Addr) | ty (n : String)
  | clo (lam : Expr) (caps : List D)
  | scr (ns : List Int)
instance : Inhabited D := ⟨.non⟩

/-- a thing of the store: a list, an instance, a dict with text keys -/
inductive SO where
  | lst (ds : List D)
  | ins (C : Addr) (fs : List (Str × D))
  | dct (kvs : List (Str × D))
abbrev Sto := List SO
/-- an exception: its class, its fields -/
structure Ex where
  cls : Addr
  fs : List (Str × D)
inductive Res (α : Type) where
  | ok (a : α) (τ : Sto) | exc (e : Ex) (τ : Sto) | bad
def M (α : Type) := Sto → Res α
namespace M
def pure {α : Type} (a : α) : M α := fun τ => .ok a τ
def bad {α : Type} : M α := fun _ => .bad
def bind {α β : Type} (m : M α) (f : α → M β) : M β := fun τ => match m τ with
  | .ok a τ' => f a τ'
  | .exc e τ' => .exc e τ'
  | .bad => .bad
def throw {α : Type} (e : Ex) : M α := fun τ => .exc e τ
end M
instance : Monad M where
  pure := M.pure
  bind := M.bind
theorem M.pure_bind {α β : Type} (a : α) (f : α → M β) : M.bind (M.pure a) f = f a := rfl
theorem M.bind_pure {α : Type} (m : M α) : M.bind m M.pure = m := by
  funext τ
  show (match m τ with | .ok a τ' => _ | .exc e τ' => _ | .bad => _) = m τ
  cases m τ <;> rfl
theorem M.bind_assoc {α β γ : Type} (m : M α) (f : α → M β) (g : β → M γ) : M.bind (M.bind m f) g = M.bind m fun a => M.bind (f a) g := by
  funext τ
  show (match M.bind m f τ with | .ok a τ' => _ | .exc e τ' => _ | .bad => _) = _
  unfold M.bind
  cases m τ <;> rfl
theorem M.bad_bind {α β : Type} (f : α → M β) : M.bind M.bad f = M.bad := rfl

/-! ### how data lie in a heap -/
/-- the fixed part: what the top has written, its names, the tables of code objects -/
structure Gx where
  prog : Program
  w : World
  base : Heap
  K : PySem.W.Frag
  mg : Str → Option Value
  T : List NdefX.NTab
/-- where the store's things stand; what else is not to be leant on (a list that is being made) -/
structure Ads where
  as : List Addr
  hid : List Addr
/-- what data lean on: not the store's things, not the tables -/
def Pu (as : Ads) (H : Hp) : Hp := fun b => if b ∈ as.as ++ as.hid then none else match H b with
  | some (.tbl _) => none
  | o => o
/-- an object of which just the object itself is known -/
abbrev fz (o : Obj) : HO := .frz o (.ext fun _ => True)
/-- captured cells, frozen, and what they hold -/
structure CellsFz (G : Hp) (cl : List (Str × Addr)) (fr : List Str) (xs : List V) : Prop where
  len : xs.length = fr.length
  sub : ∀ y c, cl.lookup y = some c → y ∈ fr
  all : ∀ y c, cl.lookup y = some c → ∃ o v, G c = some (fz o) ∧ o.data = .cell v
  inj : ∀ x y c, cl.lookup x = some c → cl.lookup y = some c → x = y
  has : ∀ (i : Nat) (y : Str) (x : V), fr[i]? = some y → xs[i]? = some x → ∃ c o u, cl.lookup y = some c ∧ G c = some (fz o) ∧ o.data = .cell (some u) ∧ RelV x u
/-- the names that a scope captures, in its order -/
def freesOf (sc : Scope) : List Str := (sc.names.filter fun y => y.2 == .free).map (·.1)
/-- the object at f is the lambda's -/
def LamAt (G : Hp) (f : Addr) (lam : Expr) (xs : List V) : Prop := match lam with
  | .Lambda params body scope _ => ∃ (qual : Str) (cl : List (Str × Addr)) (pm ctv : Value) (c' : Addr),
      G f = some (fz (PySem.W.kla_obj "<lambda>" qual params body scope cl pm c' ctv)) ∧ G c' = some (LamX.CodeO c' qual) ∧ CellsFz G cl (freesOf scope) xs
  | _ => False
mutual
def Rep (K : PySem.W.Frag) (as : Ads) (G : Hp) : D → V → Prop
  | .non, v => v = .non
  | .bl b, v => v = .bl b
  | .int i, v => v = .int i
  | .str s, v => v = .str s
  | .tup ds, v => ∃ a xs, v = .ref a ∧ SqT K G a xs ∧ Reps K as G ds xs
  | .lst ds, v => ∃ a xs, v = .ref a ∧ Rd G a (.lst xs) ∧ Reps K as G ds xs
  | .loc n, v => ∃ a, as.as[n]? = some a ∧ v = .ref a
  | .glo a, v => v = .ref a
  | .ty n, v => v = .ty n
  | .clo lam caps, v => ∃ f xs, v = .ref f ∧ LamAt G f lam xs ∧ Reps K as G caps xs
  | .scr ns, v => ∃ a, v = .ref a ∧ SqL K G a (ns.map V.int)
def Reps (K : PySem.W.Frag) (as : Ads) (G : Hp) : List D → List V → Prop
  | [], xs => xs = []
  | d :: ds, xs => ∃ x r, xs = x :: r ∧ Rep K as G d x ∧ Reps K as G ds r
end
section
variable {K : PySem.W.Frag} {as as' : Ads} {G G' : Hp}
theorem Same.seqT {H H' : Hp} {a : Addr} {xs : List V} (e : Same H H') (h : SqT K H a xs) : SqT K H' a xs := by
  rcases h with (h | ⟨o, h⟩) | h
  · exact .inl (.inl (e _ _ h))
  · exact .inl (.inr ⟨o, e _ _ h⟩)
  · exact .inr h
theorem CellsFz.mono {cl : List (Str × Addr)} {fr : List Str} {xs : List V} (h : CellsFz G cl fr xs) (e : Same G G') : CellsFz G' cl fr xs :=
  ⟨h.len, h.sub, fun y c q => let ⟨o, v, a, b⟩ := h.all y c q; ⟨o, v, e _ _ a, b⟩, h.inj, fun i y x p q => let ⟨c, o, u, a, b, d, r⟩ := h.has i y x p q; ⟨c, o, u, a, e _ _ b, d, r⟩⟩
theorem LamAt.mono {f : Addr} {lam : Expr} {xs : List V} (h : LamAt G f lam xs) (e : Same G G') : LamAt G' f lam xs := by
  cases lam <;> first | exact h.elim | skip
  obtain ⟨qual, cl, pm, ctv, c', h1, h2, h3⟩ := h
  exact ⟨qual, cl, pm, ctv, c', e _ _ h1, e _ _ h2, h3.mono e⟩
mutual
theorem Rep.mono (e : Same G G') (p : as.as <+: as'.as) : ∀ (d : D) (v : V), Rep K as G d v → Rep K as' G' d v
  | .non, v, h => h
  | .bl b, v, h => h
  | .int i, v, h => h
  | .str s, v, h => h
  | .tup ds, v, h => by
    obtain ⟨a, xs, rfl, h1, h2⟩ := h
    exact ⟨a, xs, rfl, Same.seqT e h1, Reps.mono e p ds xs h2⟩
  | .lst ds, v, h => by
    obtain ⟨a, xs, rfl, h1, h2⟩ := h
    exact ⟨a, xs, rfl, h1.imp (e _ _) fun ⟨o, q⟩ => ⟨o, e _ _ q⟩, Reps.mono e p ds xs h2⟩
  | .loc n, v, h => by
    obtain ⟨a, h1, rfl⟩ := h
    obtain ⟨t, e⟩ := p
    refine ⟨a, ?_, rfl⟩
    rw [← e, List.getElem?_append_left (List.getElem?_eq_some_iff.mp h1).1]
    exact h1
  | .glo a, v, h => h
  | .ty n, v, h => h
  | .clo lam caps, v, h => by
    obtain ⟨f, xs, rfl, h1, h2⟩ := h
    exact ⟨f, xs, rfl, h1.mono e, Reps.mono e p caps xs h2⟩
  | .scr ns, v, h => by
    obtain ⟨a, rfl, h1⟩ := h
    exact ⟨a, rfl, h1.imp (fun q => q.imp (e _ _) fun ⟨o, q⟩ => ⟨o, e _ _ q⟩) id⟩
theorem Reps.mono (e : Same G G') (p : as.as <+: as'.as) : ∀ (ds : List D) (xs : List V), Reps K as G ds xs → Reps K as' G' ds xs
  | [], xs, h => h
  | d :: ds, xs, h => by
    obtain ⟨x, r, rfl, h1, h2⟩ := h
    exact ⟨x, r, rfl, Rep.mono e p d x h1, Reps.mono e p ds r h2⟩
end
theorem Reps.nil : Reps K as G [] [] := rfl
theorem Reps.cons {d : D} {ds : List D} {x : V} {xs : List V} (h : Rep K as G d x) (t : Reps K as G ds xs) : Reps K as G (d :: ds) (x :: xs) := ⟨x, xs, rfl, h, t⟩
theorem Reps.length : ∀ {ds : List D} {xs : List V}, Reps K as G ds xs → xs.length = ds.length
  | [], _, h => by rw [show _ = [] from h]; rfl
  | d :: ds, _, h => by
    obtain ⟨x, r, rfl, _, h2⟩ := h
    simp [h2.length]
theorem Reps.get : ∀ {ds : List D} {xs : List V} {i : Nat} {d : D}, Reps K as G ds xs → ds[i]? = some d → ∃ x, xs[i]? = some x ∧ Rep K as G d x
  | [], _, _, _, _, e => by simp at e
  | d :: ds, _, 0, _, h, e => by
    obtain ⟨x, r, rfl, h1, _⟩ := h
    simp at e
    subst e
    exact ⟨x, rfl, h1⟩
  | d :: ds, _, i + 1, _, h, e => by
    obtain ⟨x, r, rfl, _, h2⟩ := h
    obtain ⟨y, e1, h3⟩ := h2.get (i := i) (by simpa using e)
    exact ⟨y, by simpa using e1, h3⟩
theorem Reps.get' : ∀ {ds : List D} {xs : List V} {i : Nat} {x : V}, Reps K as G ds xs → xs[i]? = some x → ∃ d, ds[i]? = some d ∧ Rep K as G d x
  | [], _, _, _, h, e => by rw [show _ = [] from h] at e; simp at e
  | d :: ds, _, 0, _, h, e => by
    obtain ⟨x, r, rfl, h1, _⟩ := h
    simp at e
    subst e
    exact ⟨d, rfl, h1⟩
  | d :: ds, _, i + 1, _, h, e => by
    obtain ⟨x, r, rfl, _, h2⟩ := h
    obtain ⟨y, e1, h3⟩ := h2.get' (i := i) (by simpa using e)
    exact ⟨y, by simpa using e1, h3⟩
theorem Reps.append : ∀ {ds es : List D} {xs ys : List V}, Reps K as G ds xs → Reps K as G es ys → Reps K as G (ds ++ es) (xs ++ ys)
  | [], _, _, _, h, t => by rw [show _ = [] from h]; exact t
  | d :: ds, _, _, _, h, t => by
    obtain ⟨x, r, rfl, h1, h2⟩ := h
    exact ⟨x, _, rfl, h1, h2.append t⟩
theorem Reps.take : ∀ {ds : List D} {xs : List V} (n : Nat), Reps K as G ds xs → Reps K as G (ds.take n) (xs.take n)
  | [], _, n, h => by rw [show _ = [] from h]; simp [Reps]
  | _ :: _, _, 0, h => by simp [Reps]
  | d :: ds, _, n + 1, h => by
    obtain ⟨x, r, rfl, h1, h2⟩ := h
    exact ⟨x, _, rfl, h1, h2.take n⟩
theorem Reps.drop : ∀ {ds : List D} {xs : List V} (n : Nat), Reps K as G ds xs → Reps K as G (ds.drop n) (xs.drop n)
  | [], _, n, h => by rw [show _ = [] from h]; simp [Reps]
  | _ :: _, _, 0, h => by simpa using h
  | d :: ds, _, n + 1, h => by
    obtain ⟨x, r, rfl, h1, h2⟩ := h
    simpa using h2.drop n
theorem Reps.set : ∀ {ds : List D} {xs : List V} {d : D} {x : V} (i : Nat), Reps K as G ds xs → Rep K as G d x → Reps K as G (ds.set i d) (xs.set i x)
  | [], _, _, _, _, h, _ => by rw [show _ = [] from h]; exact rfl
  | _ :: _, _, _, _, 0, h, q => by
    obtain ⟨x, r, rfl, h1, h2⟩ := h
    exact ⟨_, _, rfl, q, h2⟩
  | _ :: _, _, _, _, i + 1, h, q => by
    obtain ⟨x, r, rfl, h1, h2⟩ := h
    exact ⟨x, _, rfl, h1, h2.set i q⟩
end

/-! ### the store, the code tables -/
section
variable (Γ : Gx)
/-- a thing of the store stands at a -/
def SoR (as : Ads) (H : Hp) (a : Addr) : SO → Prop
  | .lst ds => ∃ xs, H a = some (.lst xs) ∧ Reps Γ.K as (Pu as H) ds xs
  | .ins C fs => ∃ dx xs, H a = some (.ins C dx ((fs.map (·.1)).zip xs)) ∧ Reps Γ.K as (Pu as H) (fs.map (·.2)) xs
  | .dct kvs => ∃ xs, H a = some (.dK ((kvs.map fun q => (Sum.inr q.1 : Key)).zip xs)) ∧ Reps Γ.K as (Pu as H) (kvs.map (·.2)) xs
structure Wr (as : Ads) (τ : Sto) (H : Hp) : Prop where
  len : as.as.length = τ.length
  nd : (as.as ++ as.hid).Nodup
  live : ∀ b ∈ as.hid, ∃ xs, H b = some (.lst xs)
  ob : ∀ (n : Nat) (so : SO) (a : Addr), τ[n]? = some so → as.as[n]? = some a → SoR Γ as H a so
  tab : NdefX.TabsN Γ.T H
end
/-- from one heap to a later one -/
structure Ext (as : Ads) (H : Hp) (as' : Ads) (H' : Hp) : Prop where
  pre : as.as <+: as'.as
  hid : as'.hid = as.hid
  same : Same (Pu as H) (Pu as' H')
  hk : ∀ b ∈ as.hid, H' b = H b
section
variable {as as' as2 : Ads} {H H' H2 : Hp}
theorem Ext.refl : Ext as H as H := ⟨List.prefix_refl _, rfl, Same.refl _, fun _ _ => rfl⟩
theorem Ext.trans (a : Ext as H as' H') (b : Ext as' H' as2 H2) : Ext as H as2 H2 := ⟨a.pre.trans b.pre, b.hid.trans a.hid, a.same.trans b.same, fun c hc => (b.hk c (by rw [a.hid]; exact hc)).trans (a.hk c hc)⟩
theorem Pu_some {b : Addr} {o : HO} (h : Pu as H b = some o) : H b = some o ∧ b ∉ as.as ++ as.hid := by
  unfold Pu at h
  split at h
  · cases h
  · rename_i hb
    split at h
    · cases h
    · exact ⟨h, hb⟩
theorem Pu_of {b : Addr} {o : HO} (h : H b = some o) (hb : b ∉ as.as ++ as.hid) (ht : ∀ ps, o ≠ .tbl ps) : Pu as H b = some o := by
  unfold Pu
  rw [if_neg hb, h]
  cases o <;> first | rfl | exact absurd rfl (ht _)
theorem Pu_sub : Same (Pu as H) H := fun b o h => (Pu_some h).1
theorem Rd.un {a : Addr} {u : HO} (h : Rd (Pu as H) a u) : Rd H a u := h.imp (Pu_sub _ _) fun ⟨o, q⟩ => ⟨o, Pu_sub _ _ q⟩
theorem Rd.sq {K : PySem.W.Frag} {a : Addr} {xs : List V} (h : Rd (Pu as H) a (.lst xs)) : SqL K H a xs := .inl (Rd.un h)
theorem SqL.un {K : PySem.W.Frag} {a : Addr} {xs : List V} (h : SqL K (Pu as H) a xs) : SqL K H a xs := h.imp (fun q => Rd.un q) id
theorem SqT.un {K : PySem.W.Frag} {a : Addr} {xs : List V} (h : SqT K (Pu as H) a xs) : SqT K H a xs := Same.seqT Pu_sub h
variable {Γ : Gx} {τ : Sto}
/-- what stands in the store is there -/
theorem Wr.there (w : Wr Γ as τ H) {a : Addr} (h : a ∈ as.as) : ∃ o, H a = some o := by
  obtain ⟨n, hn, e⟩ := List.getElem_of_mem h
  have hn' : n < τ.length := by rw [← w.len]; exact hn
  have q := w.ob n τ[n] a (List.getElem?_eq_getElem hn') (by rw [List.getElem?_eq_getElem hn, e])
  cases hs : τ[n] with
  | lst ds => rw [hs] at q; obtain ⟨xs, q, _⟩ := q; exact ⟨_, q⟩
  | ins C fs => rw [hs] at q; obtain ⟨dx, xs, q, _⟩ := q; exact ⟨_, q⟩
  | dct kvs => rw [hs] at q; obtain ⟨xs, q, _⟩ := q; exact ⟨_, q⟩
theorem Wr.fresh (w : Wr Γ as τ H) {p : Addr} (h : H p = none) : p ∉ as.as ++ as.hid := fun hp => by
  have q : ∃ o, H p = some o := (List.mem_append.mp hp).elim w.there fun z => let ⟨xs, e⟩ := w.live p z; ⟨_, e⟩
  obtain ⟨o, e⟩ := q
  rw [h] at e
  cases e
/-- a new object is laid -/
theorem Ext.new {p : Addr} {o : HO} (w : Wr Γ as τ H) (hp : H p = none) : Ext as H as (upd H p o) := ⟨List.prefix_refl _, rfl, fun b u h => by
  obtain ⟨h1, h2⟩ := Pu_some h
  have ht : ∀ ps, u ≠ .tbl ps := fun ps z => by
    unfold Pu at h
    rw [if_neg h2, h1, z] at h
    cases h
  exact Pu_of (by rw [upd_ne (ne_of_none h1 hp)]; exact h1) h2 ht, fun b hb => upd_ne fun e => w.fresh hp (List.mem_append_right _ (e ▸ hb))⟩
theorem SoR.ext {a : Addr} {so : SO} (h : SoR Γ as H a so) (e : Same (Pu as H) (Pu as' H')) (p : as.as <+: as'.as) (k : ∀ o, H a = some o → H' a = some o) : SoR Γ as' H' a so := by
  cases so with
  | lst ds => obtain ⟨xs, h1, h2⟩ := h; exact ⟨xs, k _ h1, Reps.mono e p _ _ h2⟩
  | ins C fs => obtain ⟨dx, xs, h1, h2⟩ := h; exact ⟨dx, xs, k _ h1, Reps.mono e p _ _ h2⟩
  | dct kvs => obtain ⟨xs, h1, h2⟩ := h; exact ⟨xs, k _ h1, Reps.mono e p _ _ h2⟩
theorem Wr.new (w : Wr Γ as τ H) {p : Addr} {o : HO} (hp : H p = none) : Wr Γ as τ (upd H p o) :=
  have kp : ∀ b u, H b = some u → upd H p o b = some u := fun b u e => by rw [upd_ne (ne_of_none e hp)]; exact e
  ⟨w.len, w.nd, fun b hb => let ⟨xs, e⟩ := w.live b hb; ⟨xs, kp b _ e⟩, fun n so a h1 h2 => (w.ob n so a h1 h2).ext (Ext.new w hp).same (List.prefix_refl _) (kp a), w.tab.ext kp⟩
theorem Wr.same (w : Wr Γ as τ H) (kp : Same H H') : Wr Γ as τ H' := by
  have e : Same (Pu as H) (Pu as H') := fun b u h => by
    obtain ⟨h1, h2⟩ := Pu_some h
    have ht : ∀ ps, u ≠ .tbl ps := fun ps z => by
      unfold Pu at h
      rw [if_neg h2, h1, z] at h
      cases h
    exact Pu_of (kp _ _ h1) h2 ht
  exact ⟨w.len, w.nd, fun b hb => let ⟨xs, e⟩ := w.live b hb; ⟨xs, kp b _ e⟩, fun n so a h1 h2 => (w.ob n so a h1 h2).ext e (List.prefix_refl _) (kp a), w.tab.ext kp⟩
theorem Ext.of_same (w : Wr Γ as τ H) (kp : Same H H') : Ext as H as H' := ⟨List.prefix_refl _, rfl, fun b u h => by
    obtain ⟨h1, h2⟩ := Pu_some h
    have ht : ∀ ps, u ≠ .tbl ps := fun ps z => by
      unfold Pu at h
      rw [if_neg h2, h1, z] at h
      cases h
    exact Pu_of (kp _ _ h1) h2 ht, fun b hb => by
    obtain ⟨xs, e⟩ := w.live b hb
    rw [e, kp b _ e]⟩
/-- a new object, p: data at once -/
theorem new_pu {p : Addr} {o : HO} (w : Wr Γ as τ H) (hp : H p = none) (ht : ∀ ps, o ≠ .tbl ps) : Pu as (upd H p o) p = some o := Pu_of upd_same (w.fresh hp) ht
theorem rep_tup {ds : List D} {xs : List V} {p : Addr} (w : Wr Γ as τ H) (hp : H p = none) (h : Reps Γ.K as (Pu as H) ds xs) : Rep Γ.K as (Pu as (upd H p (.tup xs))) (.tup ds) (.ref p) :=
  ⟨p, xs, rfl, SqT.of (new_pu w hp fun _ z => nomatch z), Reps.mono (Ext.new w hp).same (List.prefix_refl _) _ _ h⟩
theorem rep_lst {ds : List D} {xs : List V} {p : Addr} (w : Wr Γ as τ H) (hp : H p = none) (h : Reps Γ.K as (Pu as H) ds xs) : Rep Γ.K as (Pu as (upd H p (.lst xs))) (.lst ds) (.ref p) :=
  ⟨p, xs, rfl, Rd.of (new_pu w hp fun _ z => nomatch z), Reps.mono (Ext.new w hp).same (List.prefix_refl _) _ _ h⟩
end

/-! ### the names' values, the ends -/
/-- what is known of the names -/
abbrev Rho := List (Option D)
structure EnvR (K : PySem.W.Frag) (as : Ads) (G : Hp) (ρ : Rho) (σ : L2.St) : Prop where
  len : σ.length = ρ.length
  at_ : ∀ (i : Nat) (d : D), ρ[i]? = some (some d) → ∃ v, σ[i]? = some (some v) ∧ Rep K as G d v
theorem EnvR.mono {K : PySem.W.Frag} {as as' : Ads} {G G' : Hp} {ρ : Rho} {σ : L2.St} (h : EnvR K as G ρ σ) (e : Same G G') (p : as.as <+: as'.as) : EnvR K as' G' ρ σ :=
  ⟨h.len, fun i d q => let ⟨v, a, b⟩ := h.at_ i d q; ⟨v, a, Rep.mono e p d v b⟩⟩
theorem EnvR.set {K : PySem.W.Frag} {as : Ads} {G : Hp} {ρ : Rho} {σ : L2.St} {d : D} {v : V} (h : EnvR K as G ρ σ) (i : Nat) (r : Rep K as G d v) : EnvR K as G (ρ.set i (some d)) (σ.set i (some v)) := by
  refine ⟨by simp [h.len], fun j e q => ?_⟩
  by_cases hj : i = j
  · subst hj
    by_cases hi : i < ρ.length
    · rw [List.getElem?_set_self hi] at q
      cases q
      exact ⟨v, List.getElem?_set_self (by rw [h.len]; exact hi), r⟩
    · rw [List.getElem?_eq_none (by simpa using hi)] at q
      cases q
  · rw [List.getElem?_set_ne hj] at q
    obtain ⟨x, a, b⟩ := h.at_ j e q
    exact ⟨x, by rw [List.getElem?_set_ne hj]; exact a, b⟩
/-- the slots at is forgotten -/
theorem EnvR.drop {K : PySem.W.Frag} {as : Ads} {G : Hp} {ρ : Rho} {σ : L2.St} (h : EnvR K as G ρ σ) : ∀ (is : List Nat), EnvR K as G (is.foldr (fun i r => r.set i none) ρ) (wipe σ is)
  | [] => h
  | i :: is => by
    have ih := h.drop is
    refine ⟨by show ((wipe σ is).set i none).length = _; simp [ih.len], fun j e q => ?_⟩
    show ∃ v, ((wipe σ is).set i none)[j]? = some (some v) ∧ _
    have q : ((is.foldr (fun i r => r.set i none) ρ).set i none)[j]? = some (some e) := q
    by_cases hj : i = j
    · subst hj
      by_cases hi : i < (is.foldr (fun i r => r.set i none) ρ).length
      · rw [List.getElem?_set_self hi] at q
        cases q
      · rw [List.getElem?_eq_none (by simpa using hi)] at q
        cases q
    · rw [List.getElem?_set_ne hj] at q ⊢
      exact ih.at_ j e q
/-- what an exception of the mirror is in the heap -/
def ExR (K : PySem.W.Frag) (as : Ads) (H : Hp) (e : Ex) (cls : Value) (od : Option Addr) : Prop :=
  cls = .ref e.cls ∧ match e.fs with
    | [] => True
    | _ => ∃ d xs, od = some d ∧ Pu as H d = some (.xd ((e.fs.map (·.1)).zip xs)) ∧ Reps K as (Pu as H) (e.fs.map (·.2)) xs
/-- the end of a run: the value, or the exception at the slots σ -/
def Fin {α Y : Type} (Γ : Gx) (R : Ads → Hp → α → Y → Prop) (W : WX) (σ : L2.St) (as : Ads) (H : Hp) (r : Res α) (Q : Y → Hp → Prop) : Prop := match r with
  | .ok a τ' => ∀ y as' H', Ext as H as' H' → Wr Γ as' τ' H' → R as' H' a y → Q y H'
  | .exc e τ' => ∀ cls od as' H', Ext as H as' H' → Wr Γ as' τ' H' → ExR Γ.K as' H' e cls od → W cls od σ H'
  | .bad => False
def RD (Γ : Gx) : Ads → Hp → D → V → Prop := fun as H d v => Rep Γ.K as (Pu as H) d v
def RB : Ads → Hp → Bool → Bool → Prop := fun _ _ a b => a = b
def RDs (Γ : Gx) : Ads → Hp → List D → List V → Prop := fun as H d v => Reps Γ.K as (Pu as H) d v
section
variable {Γ : Gx} {α β Y Z : Type} {R : Ads → Hp → α → Y → Prop} {R' : Ads → Hp → β → Z → Prop} {W : WX} {σ : L2.St} {as as' : Ads} {H H' : Hp}
theorem Fin.ext {r : Res α} {Q : Y → Hp → Prop} (h : Fin Γ R W σ as H r Q) (e : Ext as H as' H') : Fin Γ R W σ as' H' r Q := by
  cases r with
  | ok a τ' => exact fun y as2 H2 x w q => h y as2 H2 (e.trans x) w q
  | exc c τ' => exact fun cls od as2 H2 x w q => h cls od as2 H2 (e.trans x) w q
  | bad => exact h
theorem Fin.imp {r : Res α} {Q Q' : Y → Hp → Prop} (h : Fin Γ R W σ as H r Q) (k : ∀ y H', Q y H' → Q' y H') : Fin Γ R W σ as H r Q' := by
  cases r with
  | ok a τ' => exact fun y as2 H2 x w q => k _ _ (h y as2 H2 x w q)
  | exc c τ' => exact h
  | bad => exact h
/-- one run, then another -/
theorem Fin.bind {m : M α} {f : α → M β} {τ : Sto} {Q : Z → Hp → Prop} (h : Fin Γ R' W σ as H (M.bind m f τ) Q) :
    Fin Γ R W σ as H (m τ) fun y H1 => ∃ as1 τ1 a, Ext as H as1 H1 ∧ Wr Γ as1 τ1 H1 ∧ R as1 H1 a y ∧ Fin Γ R' W σ as1 H1 (f a τ1) Q := by
  unfold M.bind at h
  cases e : m τ with
  | ok a τ' =>
    rw [e] at h
    exact fun y as1 H1 x w q => ⟨as1, τ', a, x, w, q, Fin.ext h x⟩
  | exc c τ' =>
    rw [e] at h
    exact h
  | bad =>
    rw [e] at h
    exact h
theorem Fin.pure {a : α} {τ : Sto} {Q : Y → Hp → Prop} {y : Y} (h : Fin Γ R W σ as H (M.pure a τ) Q) (w : Wr Γ as τ H) (r : R as H a y) : Q y H := h y as H Ext.refl w r
end

/-! ### readings of mirrors -/
/-- the state: what the mirror knows -/
structure Rel (Γ : Gx) (ρ : Rho) (as : Ads) (τ : Sto) (σ : L2.St) (H : Hp) : Prop where
  env : EnvR Γ.K as (Pu as H) ρ σ
  wr : Wr Γ as τ H
theorem Rel.ext {Γ : Gx} {ρ : Rho} {as as' : Ads} {τ τ' : Sto} {σ : L2.St} {H H' : Hp} (r : Rel Γ ρ as τ σ H) (e : Ext as H as' H') (w : Wr Γ as' τ' H') : Rel Γ ρ as' τ' σ H' := ⟨r.env.mono e.same e.pre, w⟩
def tG {α Y : Type} (Γ : Gx) (W : WX) (R : Ads → Hp → α → Y → Prop) (m : Rho → M α) : L2.St → Hp → (Y → Hp → Prop) → Prop := fun σ H Q =>
  ∃ ρ as τ, Rel Γ ρ as τ σ H ∧ Fin Γ R W σ as H (m ρ τ) Q
abbrev tE (Γ : Gx) (W : WX) (m : Rho → M D) : TE := tG Γ W (RD Γ) m
abbrev tT (Γ : Gx) (W : WX) (m : Rho → M Bool) : TT := tG Γ W RB m
abbrev tA (Γ : Gx) (W : WX) (m : Rho → M (List D)) : TA := tG Γ W (RDs Γ) m
section
variable {Γ : Gx} {α β Y Z : Type} {R : Ads → Hp → α → Y → Prop} {R' : Ads → Hp → β → Z → Prop} {W : WX}
/-- one part, then the rest -/
theorem tG_bind {m : Rho → M α} {f : α → Rho → M β} {σ : L2.St} {H : Hp} {Q : Z → Hp → Prop} {Q1 : Y → Hp → Prop} (h : tG Γ W R' (fun ρ => M.bind (m ρ) fun a => f a ρ) σ H Q)
    (k : ∀ ρ as τ a y H1, Rel Γ ρ as τ σ H1 → R as H1 a y → Fin Γ R' W σ as H1 (f a ρ τ) Q → Q1 y H1) : tG Γ W R m σ H Q1 := by
  obtain ⟨ρ, as, τ, r, q⟩ := h
  exact ⟨ρ, as, τ, r, q.bind.imp fun y H1 ⟨as1, τ1, a, x, w, q1, q2⟩ => k ρ as1 τ1 a y H1 (r.ext x w) q1 q2⟩
end
/-- the context: what it says of the fixed part; where exceptions go -/
structure CxR (Γ : Gx) (X : Cx) (W : WX) : Prop where
  prog : X.prog = Γ.prog
  w : X.w = Γ.w
  base : X.base = Γ.base
  K : X.K = Γ.K
  mg : X.mg = Γ.mg
  tk : Takes X W
  calm : X.calm = true
section
variable {X : Cx}
theorem PE.imp {e : Expr} {t t' : TE} (h : PE X e t) (k : ∀ σ H Q, t' σ H Q → t σ H Q) : PE X e t' := ⟨fun pins s σ H Q I q => h.run pins s σ H Q I (k _ _ _ q)⟩
theorem PT.imp {e : Expr} {t t' : TT} (h : PT X e t) (k : ∀ σ H Q, t' σ H Q → t σ H Q) : PT X e t' := ⟨fun pins s σ H Q I q => h.run pins s σ H Q I (k _ _ _ q)⟩
theorem PA.imp {e : List Expr} {t t' : TA} (h : PA X e t) (k : ∀ σ H Q, t' σ H Q → t σ H Q) : PA X e t' := ⟨fun pos pins s σ H Q I q => h.run pos pins s σ H Q I (k _ _ _ q)⟩
theorem PS.imp {e : Stmt} {t t' : TS} (h : PS X e t) (k : ∀ D σ H, t' D σ H → t D σ H) : PS X e t' := ⟨fun pins s σ H D I q => h.run pins s σ H D I (k _ _ _ q)⟩
theorem PSs.imp {e : List Stmt} {t t' : TS} (h : PSs X e t) (k : ∀ D σ H, t' D σ H → t D σ H) : PSs X e t' := ⟨fun pins s σ H D I q => h.run pins s σ H D I (k _ _ _ q)⟩
end
end Rx
end
section
set_option maxRecDepth 100000
set_option maxHeartbeats 4000000
/-! RxB: operators, comparisons, tests, subscripts by values. -/
namespace Rx
open PySem PySem.Spec PyProof.Rows L2

/-! ### the mirrors' operations -/
def ofO {α : Type} : Option α → M α
  | some a => M.pure a
  | none => M.bad
def rd {α : Type} (g : Sto → Option α) : M α := fun τ => match g τ with
  | some a => .ok a τ
  | none => .bad
mutual
def toPy : D → Option PyData
  | .non => some .none
  | .bl b => some (.bool b)
  | .int i => some (.int i)
  | .str s => some (.str s)
  | .tup ds => (toPys ds).map .tuple
  | .lst ds => (toPys ds).map .list
  | _ => none
def toPys : List D → Option (List PyData)
  | [] => some []
  | d :: ds => match toPy d, toPys ds with
    | some p, some ps => some (p :: ps)
    | _, _ => none
end
/-- x == y of data -/
def eqO (d e : D) : Option Bool := match toPy d, toPy e with
  | some p, some q => if SeqAt.shaped p && SeqAt.shaped q then some (PyData.eqv p q) else none
  | _, _ => none
def mulOkB (i j : Int) : Bool := decide (i.natAbs.log2 + j.natAbs.log2 < 1000000)
def addV : D → D → Option D
  | .int i, .int j => some (.int (i + j))
  | .str x, .str y => if x.length + y.length ≤ sizeLine then some (.str (x ++ y)) else none
  | .lst xs, .lst ys => if xs.length + ys.length ≤ sizeLine then some (.lst (xs ++ ys)) else none
  | .tup xs, .tup ys => if xs.length + ys.length ≤ sizeLine then some (.tup (xs ++ ys)) else none
  | _, _ => none
def subV : D → D → Option D
  | .int i, .int j => some (.int (i - j))
  | _, _ => none
def mulV : D → D → Option D
  | .int i, .int j => if mulOkB i j then some (.int (i * j)) else none
  | .lst xs, .int k => if -(2 ^ 63) ≤ k ∧ k < 2 ^ 63 ∧ xs.length * k.toNat ≤ sizeLine then some (.lst (List.replicate k.toNat xs).flatten) else none
  | _, _ => none
def divV : D → D → Option D
  | .int i, .int j => if j ≠ 0 ∧ j.natAbs < 1073741824 then some (.int (i.fdiv j)) else if 0 < j ∧ j.natAbs.log2 < 9000 then some (.int (i / j)) else none
  | _, _ => none
def modV : D → D → Option D
  | .int i, .int j => if j ≠ 0 then some (.int (i.fmod j)) else none
  | _, _ => none
def powV : D → D → Option D
  | .int i, .int j => if 0 ≤ j ∧ j ≤ 1000000 ∧ i.natAbs < 2 ^ 64 then some (.int (i ^ j.toNat)) else none
  | _, _ => none
def binV : Operator → D → D → Option D
  | .Add => addV
  | .Sub => subV
  | .Mult => mulV
  | .FloorDiv => divV
  | .Mod => modV
  | .Pow => powV
  | _ => fun _ _ => none
def negV : D → Option D
  | .int i => some (.int (-i))
  | _ => none
def isNonD : D → Bool
  | .non => true
  | _ => false
def isV (x y : D) : Option Bool := match y with
  | .non => some (isNonD x)
  | .bl b => (match x with
    | .bl a => some (decide (a = b))
    | _ => none)
  | _ => none
/-- things that «in» may look through, one by one -/
def flatD : D → Bool
  | .non | .bl _ | .int _ | .str _ => true
  | _ => false
def toV : D → V
  | .bl b => .bl b
  | .int i => .int i
  | .str s => .str s
  | _ => .non
def inV (x y : D) : Option Bool := match y with
  | .str z => (match x with
    | .str i => some (!(Builtin.Str.occurrences z i 0 z.length 1).isEmpty)
    | _ => none)
  | .lst ds => if flatD x && ds.all flatD then some (L2.inV (toV x) (ds.map toV)) else none
  | .tup ds => if flatD x && ds.all flatD then some (L2.inV (toV x) (ds.map toV)) else none
  | _ => none
def cmpI (f : Int → Int → Bool) : D → D → Option Bool
  | .int i, .int j => some (f i j)
  | _, _ => none
def cmpV : CmpOp → D → D → Option Bool
  | .Eq => eqO
  | .NotEq => fun x y => (eqO x y).map (!·)
  | .Lt => cmpI fun i j => decide (i < j)
  | .LtE => cmpI fun i j => decide (i ≤ j)
  | .Gt => cmpI fun i j => decide (j < i)
  | .GtE => cmpI fun i j => decide (j ≤ i)
  | .Is => isV
  | .IsNot => fun x y => (isV x y).map (!·)
  | .In => inV
  | .NotIn => fun x y => (inV x y).map (!·)
def truV (x : D) (τ : Sto) : Option Bool := match x with
  | .non => some false
  | .bl b => some b
  | .int i => some (i != 0)
  | .str y => if y.length ≤ sizeLine then some ((y.length : Int) != 0) else none
  | .tup ds => some (!ds.isEmpty)
  | .lst ds => some (!ds.isEmpty)
  | .loc n => (match τ[n]? with
    | some (.lst ds) => some (!ds.isEmpty)
    | some (.dct kvs) => some (!kvs.isEmpty)
    | _ => none)
  | _ => none
def ixV (x y : D) (τ : Sto) : Option D := match y with
  | .int i => (match x with
    | .tup ds => atI ds i
    | .lst ds => atI ds i
    | .str z => if z.length ≤ sizeLine then (atI z.cps.toList i).map fun c => .str ⟨#[c]⟩ else none
    | .loc n => (match τ[n]? with
      | some (.lst ds) => atI ds i
      | _ => none)
    | .scr ns => (atI ns i).map .int
    | _ => none)
  | _ => none
def cutD (ds : List D) (lo hi : Option Int) : List D := (ds.drop (HT.sIx ds.length 0 lo)).take (HT.sIx ds.length ds.length hi - HT.sIx ds.length 0 lo)
def slV (x : D) (lo hi : Option Int) : Option D := match x with
  | .tup ds => some (.tup (cutD ds lo hi))
  | .lst ds => some (.lst (cutD ds lo hi))
  | .scr ns => some (.lst (cutD (ns.map .int) lo hi))
  | .str z => if z.length ≤ sizeLine then some (.str (cutS z lo hi)) else none
  | _ => none

/-! ### rules by values -/
section
variable (Γ : Gx)
/-- the answer d may be given -/
def Gives (as : Ads) (τ : Sto) (H : Hp) (d : D) (Q : VK) : Prop := ∀ v as' H', Ext as H as' H' → Wr Γ as' τ H' → Rep Γ.K as' (Pu as' H') d v → Q v H'
def r2V (f : D → D → Sto → Option D) : R2 := fun x y H Q => ∃ as τ d e r, Rep Γ.K as (Pu as H) d x ∧ Rep Γ.K as (Pu as H) e y ∧ Wr Γ as τ H ∧ f d e τ = some r ∧ Gives Γ as τ H r Q
def r1V (f : D → Sto → Option D) : V → Hp → VK → Prop := fun x H Q => ∃ as τ d r, Rep Γ.K as (Pu as H) d x ∧ Wr Γ as τ H ∧ f d τ = some r ∧ Gives Γ as τ H r Q
def rLV (f : List D → Sto → Option D) : List V → Hp → VK → Prop := fun xs H Q => ∃ as τ ds r, Reps Γ.K as (Pu as H) ds xs ∧ Wr Γ as τ H ∧ f ds τ = some r ∧ Gives Γ as τ H r Q
def rMV (f : D → List D → Sto → Option D) : V → List V → Hp → VK → Prop := fun x xs H Q => ∃ as τ d ds r, Rep Γ.K as (Pu as H) d x ∧ Reps Γ.K as (Pu as H) ds xs ∧ Wr Γ as τ H ∧ f d ds τ = some r ∧ Gives Γ as τ H r Q
end
section
variable {Γ : Gx} {as : Ads} {τ : Sto} {H : Hp} {Q : VK}
theorem Gives.now {d : D} {v : V} (g : Gives Γ as τ H d Q) (w : Wr Γ as τ H) (r : Rep Γ.K as (Pu as H) d v) : Q v H := g v as H Ext.refl w r
theorem Gives.newT {ds : List D} {xs : List V} (g : Gives Γ as τ H (.tup ds) Q) (w : Wr Γ as τ H) (r : Reps Γ.K as (Pu as H) ds xs) : ∀ p, H p = none → Q (.ref p) (upd H p (.tup xs)) := fun p hp =>
  g _ as _ (Ext.new w hp) (w.new hp) (rep_tup w hp r)
theorem Gives.newL {ds : List D} {xs : List V} (g : Gives Γ as τ H (.lst ds) Q) (w : Wr Γ as τ H) (r : Reps Γ.K as (Pu as H) ds xs) : ∀ p, H p = none → Q (.ref p) (upd H p (.lst xs)) := fun p hp =>
  g _ as _ (Ext.new w hp) (w.new hp) (rep_lst w hp r)
end
mutual
/-- data that may be compared -/
theorem toPy_dp {K : PySem.W.Frag} {as : Ads} {H : Hp} : ∀ (d : D) (v : V) (p : PyData), Rep K as (Pu as H) d v → toPy d = some p → Dp K H v p
  | .non, v, p, h, e => by cases e; rw [show v = _ from h]; exact .non
  | .bl b, v, p, h, e => by cases e; rw [show v = _ from h]; exact .bl b
  | .int b, v, p, h, e => by cases e; rw [show v = _ from h]; exact .int b
  | .str b, v, p, h, e => by cases e; rw [show v = _ from h]; exact .str b
  | .tup ds, v, p, h, e => by
    obtain ⟨a, xs, rfl, h1, h2⟩ := h
    unfold toPy at e
    obtain ⟨ps, e1, rfl⟩ := Option.map_eq_some_iff.mp e
    exact .tup (SqT.un h1) (toPys_dp ds xs ps h2 e1)
  | .lst ds, v, p, h, e => by
    obtain ⟨a, xs, rfl, h1, h2⟩ := h
    unfold toPy at e
    obtain ⟨ps, e1, rfl⟩ := Option.map_eq_some_iff.mp e
    exact .lst (Rd.sq h1) (toPys_dp ds xs ps h2 e1)
  | .loc _, _, _, _, e => by cases e
  | .glo _, _, _, _, e => by cases e
  | .scr _, _, _, _, e => by cases e
  | .ty _, _, _, _, e => by cases e
  | .clo _ _, _, _, _, e => by cases e
theorem toPys_dp {K : PySem.W.Frag} {as : Ads} {H : Hp} : ∀ (ds : List D) (vs : List V) (ps : List PyData), Reps K as (Pu as H) ds vs → toPys ds = some ps → DpAll K H vs ps
  | [], vs, ps, h, e => by cases e; rw [show vs = _ from h]; exact .nil
  | d :: ds, vs, ps, h, e => by
    obtain ⟨x, r, rfl, h1, h2⟩ := h
    unfold toPys at e
    cases e1 : toPy d with
    | none => rw [e1] at e; simp at e
    | some q =>
      cases e2 : toPys ds with
      | none => rw [e1, e2] at e; simp at e
      | some qs =>
        rw [e1, e2] at e
        cases e
        exact .cons (toPy_dp d x q h1 e1) (toPys_dp ds r qs h2 e2)
end
theorem eqO_py {d e : D} {b : Bool} (h : eqO d e = some b) : ∃ p q, toPy d = some p ∧ toPy e = some q ∧ SeqAt.shaped p = true ∧ SeqAt.shaped q = true ∧ PyData.eqv p q = b := by
  unfold eqO at h
  cases e1 : toPy d with
  | none => rw [e1] at h; simp at h
  | some p =>
    cases e2 : toPy e with
    | none => rw [e1, e2] at h; simp at h
    | some q =>
      rw [e1, e2] at h
      simp only at h
      split at h
      · rename_i c
        simp only [Bool.and_eq_true] at c
        exact ⟨p, q, rfl, rfl, c.1, c.2, Option.some.inj h⟩
      · cases h
section
variable {Γ : Gx} {X : Cx} {W : WX}
/-- the room of a comparison -/
abbrev Units (X : Cx) : Prop := X.A.units + 200 < cLine
theorem listG {pins : List (Addr × Obj)} {σ : L2.St} {H : Hp} {s : Shared} {a : Addr} {xs : List V} (I : Inv X pins σ H s) (h : Rd H a (.lst xs)) :
    ∃ (its : List Value) (n : Nat), Vals xs its ∧ s.heap.get? a = some { cls := .type "list", data := .seq its.toArray n } ∧ xs.length ≤ sizeLine := by
  obtain ⟨z, its, n, r, e⟩ := h.ok I.hok
  exact ⟨its, n, r, e, z⟩
/-- xs + ys of lists, whatever they are -/
theorem op_catG : OpR X (binaryOp .Add) (fun x y H Q => ∃ l b xs zs, x = .ref l ∧ y = .ref b ∧ Rd H l (.lst xs) ∧ Rd H b (.lst zs) ∧ xs.length + zs.length ≤ sizeLine ∧ ∀ p, H p = none → Q (.ref p) (upd H p (.lst (xs ++ zs)))) := by
  intro pins s σ H x y v u Q I rx ry h
  obtain ⟨l, b, xs, zs, rfl, rfl, hH, hB, hz, q⟩ := h
  cases rx
  cases ry
  obtain ⟨its, n, r, e, _⟩ := listG I hH
  obtain ⟨its2, n2, r2, e2, _⟩ := listG I hB
  have hl := r.length
  have hl2 := r2.length
  refine PySem.P.add_list e e2 ?_ (by rw [List.size_toArray, List.size_toArray]; omega)
  have ea : its.toArray ++ its2.toArray = (its ++ its2).toArray := by simp
  rw [ea]
  exact ⟨.ref _, _, I.lnew (t' := s.toks) (r.append r2) (by rw [List.length_append]; omega), rfl, q _ I.fresh⟩
theorem op_rel {f : Value → Value → Sem Value} {r r' : R2} (h : OpR X f r) (k : ∀ x y H Q, r' x y H Q → r x y H Q) : OpR X f r' := fun pins s σ H x y v u Q I rx ry q => h pins s σ H x y v u Q I rx ry (k _ _ _ _ q)
theorem addR (hK : X.K = Γ.K) : OpR X (binaryOp .Add) (r2V Γ fun d e _ => addV d e) := by
  refine op_rel (((op_add (X := X)).or (op_add_str (X := X))).or ((op_catG (X := X)).or (op_catA (X := X)))) fun x y H Q h => ?_
  obtain ⟨as, τ, d, e, r, h1, h2, w, h3, g⟩ := h
  rw [hK]
  dsimp only at h3
  unfold addV at h3
  split at h3
  · cases h3
    cases (show x = _ from h1); cases (show y = _ from h2)
    exact .inl (.inl ⟨_, _, rfl, rfl, g.now w rfl⟩)
  · cases (show x = _ from h1); cases (show y = _ from h2)
    split at h3 <;> cases h3
    rename_i hz
    exact .inl (.inr ⟨_, _, rfl, rfl, hz, g.now w rfl⟩)
  · split at h3 <;> cases h3
    rename_i hz
    obtain ⟨a, xs, rfl, a1, a2⟩ := h1
    obtain ⟨b, ys, rfl, b1, b2⟩ := h2
    exact .inr (.inl ⟨a, b, xs, ys, rfl, rfl, Rd.un a1, Rd.un b1, by rw [a2.length, b2.length]; exact hz, g.newL w (a2.append b2)⟩)
  · split at h3 <;> cases h3
    rename_i hz
    obtain ⟨a, xs, rfl, a1, a2⟩ := h1
    obtain ⟨b, ys, rfl, b1, b2⟩ := h2
    refine .inr (.inr ⟨a, b, xs, ys, rfl, rfl, SqT.un a1, SqT.un b1, by rw [a2.length, b2.length]; exact hz, fun ex => ?_, fun ex ey => ?_, fun _ _ => g.newT w (a2.append b2)⟩)
    · subst ex
      have z := a2.append b2
      exact g.now w ⟨b, ys, rfl, b1, z⟩
    · subst ey
      have z := a2.append b2
      rw [List.append_nil] at z
      exact g.now w ⟨a, xs, rfl, a1, z⟩
  · cases h3
theorem subR (hK : X.K = Γ.K) : OpR X (binaryOp .Sub) (r2V Γ fun d e _ => subV d e) := by
  refine op_rel (op_sub (X := X)) fun x y H Q h => ?_
  obtain ⟨as, τ, d, e, r, h1, h2, w, h3, g⟩ := h
  dsimp only at h3
  unfold subV at h3
  split at h3 <;> cases h3
  cases (show x = _ from h1); cases (show y = _ from h2)
  exact ⟨_, _, rfl, rfl, g.now w rfl⟩
/-- a list times an int -/
theorem op_repG : OpR X (binaryOp .Mult) (fun x y H Q => ∃ l k xs, x = .ref l ∧ y = .int k ∧ Rd H l (.lst xs) ∧ -(2 ^ 63) ≤ k ∧ k < 2 ^ 63 ∧ xs.length * k.toNat ≤ sizeLine ∧
  ∀ p, H p = none → Q (.ref p) (upd H p (.lst (List.replicate k.toNat xs).flatten))) := by
  intro pins s σ H x y v u Q I rx ry h
  obtain ⟨l, k, xs, rfl, rfl, hH, h1, h2, hz, q⟩ := h
  cases rx
  obtain ⟨t, rfl⟩ := ry
  obtain ⟨its, n, r, e, _⟩ := listG I hH
  have hl := r.length
  have hlen : its.toArray.size * k.toNat ≤ sizeLine := by rw [List.size_toArray, ← hl]; exact hz
  have hcap : ¬ its.toArray.size * k.toNat > (2 ^ 63 - 1) / 8 := by
    have : (sizeLine : Nat) ≤ (2 ^ 63 - 1) / 8 := by decide
    omega
  have hfit : ¬ (!Builtin.List.listFitsIndex k) = true := by
    rw [fitsIndex_both h1 h2]
    exact Bool.false_ne_true
  have hlong : ¬ Builtin.List.listTooLong (its.toArray.size * k.toNat) = true := by
    rw [notLongL hlen]
    exact Bool.false_ne_true
  have hnew : List.foldl (fun x1 x2 => x1 ++ x2) #[] (List.replicate (if its.toArray.isEmpty = true then 0 else k.toNat) its.toArray) = (List.replicate k.toNat its).flatten.toArray := by
    have f0 : ∀ m : Nat, List.foldl (fun x1 x2 => x1 ++ x2) #[] (List.replicate m its.toArray) = (List.replicate m its).flatten.toArray := fun m => by
      have := foldl_rep its m []
      rw [List.nil_append] at this
      exact this
    rw [f0]
    cases its with
    | nil => simp
    | cons a r' => rw [if_neg (by simp)]
  refine wpAny_binaryOp_repeat_ref (T := "list") (U := "int") (by decide) ⟨_, e, rfl⟩ (fun s' => typeIs_int s' k t) noFill_list_mul F.fills_int_mul F.slot_int_rmul repeat_list F.slot_int_index.lookup
    (call_meets F.slot_int_rmul (typeIs_int s k t) F.entry_int_rmul (F.args_int_rmul_2 _ _) (int___rmul___int_list k t l its.toArray n)
      ⟨e, rfl, ⟨_, e, rfl⟩, call_meets F.slot_list_mul ⟨_, e, rfl⟩ F.entry_list_mul (F.args_list_mul_2 _ _) (AutoListH.list___mul___list_int_3 l its.toArray n k t hfit hcap hlong) ⟨e, ?_⟩⟩)
  rw [hnew]
  exact ⟨.ref _, _, I.lnew (t' := s.toks) (r.rep k.toNat) (by rw [PyProof.Rows.lm_len_rep_flat, Nat.mul_comm]; exact hz), rfl, q _ I.fresh⟩
theorem Reps.rep {K : PySem.W.Frag} {as : Ads} {G : Hp} {ds : List D} {xs : List V} (h : Reps K as G ds xs) : ∀ n : Nat, Reps K as G (List.replicate n ds).flatten (List.replicate n xs).flatten
  | 0 => rfl
  | n + 1 => by
    simp only [List.replicate_succ, List.flatten_cons]
    exact h.append (Reps.rep h n)
theorem mulR (hK : X.K = Γ.K) : OpR X (binaryOp .Mult) (r2V Γ fun d e _ => mulV d e) := by
  refine op_rel ((op_mulW (X := X)).or (op_repG (X := X))) fun x y H Q h => ?_
  obtain ⟨as, τ, d, e, r, h1, h2, w, h3, g⟩ := h
  dsimp only at h3
  unfold mulV at h3
  split at h3
  · cases (show x = _ from h1); cases (show y = _ from h2)
    split at h3 <;> cases h3
    rename_i c
    exact .inl ⟨_, _, rfl, rfl, (show CMulW _ _ from of_decide_eq_true (p := (_ : Nat) < _) c), g.now w rfl⟩
  · cases (show y = _ from h2)
    split at h3 <;> cases h3
    rename_i c
    obtain ⟨a, xs, rfl, a1, a2⟩ := h1
    exact .inr ⟨a, _, xs, rfl, rfl, Rd.un a1, c.1, c.2.1, by rw [a2.length]; exact c.2.2, g.newL w (a2.rep _)⟩
  · cases h3
theorem divR (hK : X.K = Γ.K) : OpR X (binaryOp .FloorDiv) (r2V Γ fun d e _ => divV d e) := by
  refine op_rel ((op_fdivN (X := X)).or (op_fdivW (X := X))) fun x y H Q h => ?_
  obtain ⟨as, τ, d, e, r, h1, h2, w, h3, g⟩ := h
  dsimp only at h3
  unfold divV at h3
  split at h3
  · cases (show x = _ from h1); cases (show y = _ from h2)
    split at h3
    · cases h3
      rename_i c
      exact .inl ⟨_, _, rfl, rfl, c, g.now w rfl⟩
    · split at h3 <;> cases h3
      rename_i c
      exact .inr ⟨_, _, rfl, rfl, c, g.now w rfl⟩
  · cases h3
theorem modR (hK : X.K = Γ.K) : OpR X (binaryOp .Mod) (r2V Γ fun d e _ => modV d e) := by
  refine op_rel (op_modN (X := X)) fun x y H Q h => ?_
  obtain ⟨as, τ, d, e, r, h1, h2, w, h3, g⟩ := h
  dsimp only at h3
  unfold modV at h3
  split at h3
  · cases (show x = _ from h1); cases (show y = _ from h2)
    split at h3 <;> cases h3
    rename_i c
    exact ⟨_, _, rfl, rfl, c, g.now w rfl⟩
  · cases h3
theorem powR (hK : X.K = Γ.K) : OpR X (binaryOp .Pow) (r2V Γ fun d e _ => powV d e) := by
  refine op_rel (op_pow (X := X)) fun x y H Q h => ?_
  obtain ⟨as, τ, d, e, r, h1, h2, w, h3, g⟩ := h
  dsimp only at h3
  unfold powV at h3
  split at h3
  · cases (show x = _ from h1); cases (show y = _ from h2)
    split at h3 <;> cases h3
    rename_i c
    exact ⟨_, _, rfl, rfl, c, g.now w rfl⟩
  · cases h3
theorem op_none {f : Value → Value → Sem Value} : OpR X f (r2V Γ fun _ _ _ => none) := fun pins s σ H x y v u Q I rx ry h => by
  obtain ⟨_, _, _, _, _, _, _, _, h3, _⟩ := h
  cases h3
theorem binR (hK : X.K = Γ.K) (op : Operator) : OpR X (binaryOp op) (r2V Γ fun d e _ => binV op d e) := by
  cases op <;> first | exact addR hK | exact subR hK | exact mulR hK | exact divR hK | exact modR hK | exact powR hK | exact op_none
theorem negR : UnR X (unaryOp .USub) (r1V Γ fun d _ => negV d) := fun pins s σ H x v Q I rx h => by
  obtain ⟨as, τ, d, r, h1, w, h3, g⟩ := h
  dsimp only at h3
  unfold negV at h3
  split at h3 <;> cases h3
  cases (show x = _ from h1)
  exact un_neg pins s σ H _ v Q I rx ⟨_, rfl, g.now w rfl⟩
/-! ### comparisons -/
def bV (f : D → D → Option Bool) : D → D → Sto → Option D := fun x y _ => (f x y).map .bl
theorem bV_some {f : D → D → Option Bool} {x y r : D} {τ : Sto} (h : bV f x y τ = some r) : ∃ b, f x y = some b ∧ r = .bl b := by
  obtain ⟨b, h1, h2⟩ := Option.map_eq_some_iff.mp h
  exact ⟨b, h1, h2.symm⟩
theorem eqR (hK : X.K = Γ.K) (hu : Units X) : OpR X (compareOp .Eq) (r2V Γ (bV eqO)) := by
  refine op_rel (op_eqD (X := X) (by unfold Units at hu; omega)) fun x y H Q h => ?_
  obtain ⟨as, τ, d, e, r, h1, h2, w, h3, g⟩ := h
  obtain ⟨b, hb, rfl⟩ := bV_some h3
  replace h3 := hb
  clear hb
  obtain ⟨p, q, e1, e2, s1, s2, rfl⟩ := eqO_py h3
  rw [hK]
  exact ⟨p, q, toPy_dp d x p h1 e1, toPy_dp e y q h2 e2, s1, s2, g.now w rfl⟩
theorem neR (hK : X.K = Γ.K) (hu : Units X) : OpR X (compareOp .NotEq) (r2V Γ (bV fun x y => (eqO x y).map (!·))) := by
  refine op_rel (op_neD (X := X) (by unfold Units at hu; omega)) fun x y H Q h => ?_
  obtain ⟨as, τ, d, e, r, h1, h2, w, h3, g⟩ := h
  obtain ⟨b, hb, rfl⟩ := bV_some h3
  replace h3 := hb
  clear hb
  obtain ⟨b', hc, rfl⟩ := Option.map_eq_some_iff.mp h3
  replace h3 := hc
  clear hc
  obtain ⟨p, q, e1, e2, s1, s2, rfl⟩ := eqO_py h3
  rw [hK]
  exact ⟨p, q, toPy_dp d x p h1 e1, toPy_dp e y q h2 e2, s1, s2, g.now w rfl⟩
theorem cmpR {op : CmpOp} {f : Int → Int → Bool} (h : OpR X (compareOp op) (rI0 fun i j => .bl (f i j))) : OpR X (compareOp op) (r2V Γ (bV (cmpI f))) := by
  refine op_rel h fun x y H Q h => ?_
  obtain ⟨as, τ, d, e, r, h1, h2, w, h3, g⟩ := h
  obtain ⟨b, hb, rfl⟩ := bV_some h3
  replace h3 := hb
  clear hb
  unfold cmpI at h3
  split at h3 <;> cases h3
  cases (show x = _ from h1); cases (show y = _ from h2)
  exact ⟨_, _, rfl, rfl, g.now w rfl⟩
theorem rep_non {K : PySem.W.Frag} {as : Ads} {G : Hp} {d : D} {x : V} (h : Rep K as G d x) : decide (x = .non) = isNonD d := by
  cases d with
  | non => cases (show x = _ from h); rfl
  | bl => cases (show x = _ from h); rfl
  | int => cases (show x = _ from h); rfl
  | str => cases (show x = _ from h); rfl
  | tup => obtain ⟨a, xs, rfl, _⟩ := h; rfl
  | lst => obtain ⟨a, xs, rfl, _⟩ := h; rfl
  | scr => obtain ⟨a, rfl, _⟩ := h; rfl
  | loc => obtain ⟨a, _, rfl⟩ := h; rfl
  | glo => cases (show x = _ from h); rfl
  | ty => cases (show x = _ from h); rfl
  | clo => obtain ⟨a, xs, rfl, _⟩ := h; rfl
theorem isR : OpR X (compareOp .Is) (r2V Γ (bV isV)) := by
  refine op_rel ((op_isN (X := X)).or (op_is_bl (X := X))) fun x y H Q h => ?_
  obtain ⟨as, τ, d, e, r, h1, h2, w, h3, g⟩ := h
  obtain ⟨b, hb, rfl⟩ := bV_some h3
  replace h3 := hb
  clear hb
  unfold isV at h3
  split at h3
  · cases (show y = _ from h2)
    have e := rep_non h1
    rw [Option.some.inj h3] at e
    exact .inl ⟨rfl, g.now w (congrArg V.bl e)⟩
  · cases (show y = _ from h2)
    split at h3 <;> cases h3
    cases (show x = _ from h1)
    exact .inr ⟨_, _, rfl, rfl, g.now w rfl⟩
  · cases h3
theorem isnotR : OpR X (compareOp .IsNot) (r2V Γ (bV fun x y => (isV x y).map (!·))) := by
  refine op_rel ((op_notN (X := X)).or (op_isnot_bl (X := X))) fun x y H Q h => ?_
  obtain ⟨as, τ, d, e, r, h1, h2, w, h3, g⟩ := h
  obtain ⟨b, hb, rfl⟩ := bV_some h3
  replace h3 := hb
  clear hb
  obtain ⟨b', hc, rfl⟩ := Option.map_eq_some_iff.mp h3
  replace h3 := hc
  clear hc
  unfold isV at h3
  split at h3
  · cases (show y = _ from h2)
    have e := rep_non h1
    rw [Option.some.inj h3] at e
    exact .inl ⟨rfl, g.now w (congrArg (fun z => V.bl (!z)) e)⟩
  · cases (show y = _ from h2)
    split at h3 <;> cases h3
    cases (show x = _ from h1)
    exact .inr ⟨_, _, rfl, rfl, g.now w rfl⟩
  · cases h3
theorem flat_rep {K : PySem.W.Frag} {as : Ads} {G : Hp} {d : D} {x : V} (h : Rep K as G d x) (f : flatD d = true) : x = toV d ∧ flatV x = true := by
  cases d <;> first | cases f | skip
  all_goals (cases (show x = _ from h); exact ⟨rfl, rfl⟩)
theorem flat_reps {K : PySem.W.Frag} {as : Ads} {G : Hp} : ∀ {ds : List D} {xs : List V}, Reps K as G ds xs → ds.all flatD = true → xs = ds.map toV ∧ xs.all flatV = true
  | [], _, h, _ => by rw [show _ = _ from h]; exact ⟨rfl, rfl⟩
  | d :: ds, _, h, f => by
    obtain ⟨x, r, rfl, h1, h2⟩ := h
    simp only [List.all_cons, Bool.and_eq_true] at f
    obtain ⟨e1, f1⟩ := flat_rep h1 f.1
    obtain ⟨e2, f2⟩ := flat_reps h2 f.2
    exact ⟨by rw [e1, e2]; rfl, by simp [f1, f2]⟩
theorem inR (hK : X.K = Γ.K) : OpR X (compareOp .In) (r2V Γ (bV inV)) := by
  refine op_rel ((op_in_str (X := X)).or (op_in_seq (X := X))) fun x y H Q h => ?_
  obtain ⟨as, τ, d, e, r, h1, h2, w, h3, g⟩ := h
  obtain ⟨b, hb, rfl⟩ := bV_some h3
  replace h3 := hb
  clear hb
  unfold inV at h3
  split at h3
  · split at h3 <;> cases h3
    cases (show x = _ from h1); cases (show y = _ from h2)
    exact .inl ⟨_, _, rfl, rfl, g.now w rfl⟩
  · split at h3 <;> cases h3
    rename_i c
    simp only [Bool.and_eq_true] at c
    obtain ⟨a, xs, rfl, a1, a2⟩ := h2
    obtain ⟨e1, f1⟩ := flat_rep h1 c.1
    obtain ⟨e2, f2⟩ := flat_reps a2 c.2
    exact .inr ⟨a, xs, rfl, .inl (Rd.sq a1), f1, f2, by rw [e1, e2]; exact g.now w rfl⟩
  · split at h3 <;> cases h3
    rename_i c
    simp only [Bool.and_eq_true] at c
    obtain ⟨a, xs, rfl, a1, a2⟩ := h2
    obtain ⟨e1, f1⟩ := flat_rep h1 c.1
    obtain ⟨e2, f2⟩ := flat_reps a2 c.2
    rw [hK]
    exact .inr ⟨a, xs, rfl, .inr (SqT.un a1), f1, f2, by rw [e1, e2]; exact g.now w rfl⟩
  · cases h3
theorem notinR (hK : X.K = Γ.K) : OpR X (compareOp .NotIn) (r2V Γ (bV fun x y => (inV x y).map (!·))) := by
  refine op_rel ((op_notin_str (X := X)).or (op_notIn_seq (X := X))) fun x y H Q h => ?_
  obtain ⟨as, τ, d, e, r, h1, h2, w, h3, g⟩ := h
  obtain ⟨b, hb, rfl⟩ := bV_some h3
  replace h3 := hb
  clear hb
  obtain ⟨b', hc, rfl⟩ := Option.map_eq_some_iff.mp h3
  replace h3 := hc
  clear hc
  unfold inV at h3
  split at h3
  · split at h3 <;> cases h3
    cases (show x = _ from h1); cases (show y = _ from h2)
    exact .inl ⟨_, _, rfl, rfl, g.now w rfl⟩
  · rename_i ds
    by_cases c : (flatD d && ds.all flatD) = true
    case neg => rw [if_neg c] at h3; cases h3
    rw [if_pos c] at h3
    cases h3
    simp only [Bool.and_eq_true] at c
    obtain ⟨a, xs, rfl, a1, a2⟩ := h2
    obtain ⟨e1, f1⟩ := flat_rep h1 c.1
    obtain ⟨e2, f2⟩ := flat_reps a2 c.2
    exact .inr ⟨a, xs, rfl, .inl (Rd.sq a1), f1, f2, by rw [e1, e2]; exact g.now w rfl⟩
  · rename_i ds
    by_cases c : (flatD d && ds.all flatD) = true
    case neg => rw [if_neg c] at h3; cases h3
    rw [if_pos c] at h3
    cases h3
    simp only [Bool.and_eq_true] at c
    obtain ⟨a, xs, rfl, a1, a2⟩ := h2
    obtain ⟨e1, f1⟩ := flat_rep h1 c.1
    obtain ⟨e2, f2⟩ := flat_reps a2 c.2
    rw [hK]
    exact .inr ⟨a, xs, rfl, .inr (SqT.un a1), f1, f2, by rw [e1, e2]; exact g.now w rfl⟩
  · cases h3
theorem cmpVR (hK : X.K = Γ.K) (hu : Units X) (op : CmpOp) : OpR X (compareOp op) (r2V Γ (bV (cmpV op))) := by
  cases op with
  | Eq => exact eqR hK hu
  | NotEq => exact neR hK hu
  | Lt => exact cmpR op_lt
  | LtE => exact cmpR op_le
  | Gt => exact cmpR op_gt
  | GtE => exact cmpR op_ge
  | Is => exact isR
  | IsNot => exact isnotR
  | In => exact inR hK
  | NotIn => exact notinR hK
/-! ### truth, subscripts -/
theorem emp_eq {α β : Type} {xs : List α} {ds : List β} (h : xs.length = ds.length) : (!ds.isEmpty) = !xs.isEmpty := by
  cases xs <;> cases ds <;> simp_all
theorem truV_ok {as : Ads} {τ : Sto} {H : Hp} {d : D} {x : V} {k : Bool} (hK : X.K = Γ.K) (w : Wr Γ as τ H) (h : Rep Γ.K as (Pu as H) d x) (e : truV d τ = some k) : TruV X.K x H k := by
  cases d with
  | non => cases (show x = _ from h); cases e; rfl
  | bl => cases (show x = _ from h); cases e; rfl
  | int => cases (show x = _ from h); cases e; rfl
  | str =>
    cases (show x = _ from h)
    unfold truV at e
    dsimp only at e
    split at e <;> cases e
    rename_i c
    exact ⟨c, rfl⟩
  | tup =>
    obtain ⟨a, xs, rfl, h1, h2⟩ := h
    cases e
    rw [hK]
    exact .inr (.inl ⟨xs, SqT.un h1, emp_eq h2.length⟩)
  | lst =>
    obtain ⟨a, xs, rfl, h1, h2⟩ := h
    cases e
    exact .inl ⟨xs, Rd.sq h1, emp_eq h2.length⟩
  | loc n =>
    obtain ⟨a, h1, rfl⟩ := h
    unfold truV at e
    dsimp only at e
    split at e <;> cases e
    · rename_i ds q
      obtain ⟨xs, h2, h3⟩ := w.ob _ _ _ q h1
      exact .inl ⟨xs, SqL.of h2, emp_eq h3.length⟩
    · rename_i kvs q
      obtain ⟨xs, h2, h3⟩ := w.ob _ _ _ q h1
      refine .inr (.inr ⟨_, h2, emp_eq ?_⟩)
      have := h3.length
      simp_all
  | glo => cases e
  | ty => cases e
  | clo => cases e
  | scr => cases e
theorem atI_reps {K : PySem.W.Frag} {as : Ads} {G : Hp} {ds : List D} {xs : List V} {i : Int} {d : D} (h : Reps K as G ds xs) (e : atI ds i = some d) : ∃ x, atI xs i = some x ∧ Rep K as G d x := by
  unfold atI at e ⊢
  rw [h.length]
  cases q : ixN ds.length i with
  | none => rw [q] at e; cases e
  | some j =>
    rw [q] at e
    exact h.get e
theorem atI_map {ns : List Int} {i z : Int} (h : atI ns i = some z) : atI (ns.map V.int) i = some (.int z) := by
  unfold atI at h ⊢
  rw [List.length_map]
  cases q : ixN ns.length i with
  | none => rw [q] at h; cases h
  | some j =>
    rw [q] at h
    have h : ns[j]? = some z := h
    show (ns.map V.int)[j]? = _
    rw [List.getElem?_map, h]
    rfl
theorem reps_int {K : PySem.W.Frag} {as : Ads} {G : Hp} : ∀ ns : List Int, Reps K as G (ns.map .int) (ns.map V.int)
  | [] => rfl
  | n :: ns => ⟨_, _, rfl, rfl, reps_int ns⟩
theorem ixR_rel {r r' : R2} (h : IxR X r) (k : ∀ x y H Q, r' x y H Q → r x y H Q) : IxR X r' := fun value slice pins s σ H x y v u Q I rx ry q hs => h value slice pins s σ H x y v u Q I rx ry (k _ _ _ _ q) hs
theorem ixVR (hK : X.K = Γ.K) : IxR X (r2V Γ ixV) := by
  refine ixR_rel (ix_seq (X := X)) fun x y H Q h => ?_
  obtain ⟨as, τ, d, e, r, h1, h2, w, h3, g⟩ := h
  unfold ixV at h3
  split at h3
  · cases (show y = _ from h2)
    split at h3
    · obtain ⟨a, xs, rfl, a1, a2⟩ := h1
      obtain ⟨x, e1, e2⟩ := atI_reps a2 h3
      rw [hK]
      exact .inr (.inl ⟨a, xs, _, x, rfl, rfl, SqT.un a1, e1, g.now w e2⟩)
    · obtain ⟨a, xs, rfl, a1, a2⟩ := h1
      obtain ⟨x, e1, e2⟩ := atI_reps a2 h3
      exact .inl ⟨a, xs, _, x, rfl, rfl, Rd.sq a1, e1, g.now w e2⟩
    · cases (show x = _ from h1)
      split at h3
      · rename_i c
        obtain ⟨z, e1, rfl⟩ := Option.map_eq_some_iff.mp h3
        exact .inr (.inr ⟨_, _, z, rfl, rfl, c, e1, g.now w rfl⟩)
      · cases h3
    · obtain ⟨a, h1, rfl⟩ := h1
      split at h3
      · rename_i ds q
        obtain ⟨xs, a1, a2⟩ := w.ob _ _ _ q h1
        obtain ⟨x, e1, e2⟩ := atI_reps a2 h3
        exact .inl ⟨a, xs, _, x, rfl, rfl, SqL.of a1, e1, g.now w e2⟩
      · cases h3
    · obtain ⟨a, rfl, a1⟩ := h1
      obtain ⟨z, e1, rfl⟩ := Option.map_eq_some_iff.mp h3
      rw [← hK] at a1
      exact .inl ⟨a, _, _, .int z, rfl, rfl, SqL.un a1, atI_map e1, g.now w rfl⟩
    · cases h3
  · cases h3
theorem cut_reps {K : PySem.W.Frag} {as : Ads} {G : Hp} {ds : List D} {xs : List V} (h : Reps K as G ds xs) (lo hi : Option Int) : Reps K as G (cutD ds lo hi) (cutV xs lo hi) := by
  unfold cutD cutV
  rw [h.length]
  exact (h.drop _).take _
/-- a slice -/
def rSV (Γ : Gx) : V → Option Int → Option Int → Hp → VK → Prop := fun x lo hi H Q => ∃ as τ d r, Rep Γ.K as (Pu as H) d x ∧ Wr Γ as τ H ∧ slV d lo hi = some r ∧ Gives Γ as τ H r Q
theorem slVR (hK : X.K = Γ.K) : SlR X (rSV Γ) := by
  have base := ((sl_list (X := X)).or (sl_str (X := X))).or (sl_tupA (X := X))
  intro pins s σ H x v vl vu lo hi sl Q I rx hs pl pu h
  refine base pins s σ H x v vl vu lo hi sl Q I rx hs pl pu ?_
  obtain ⟨as, τ, d, r, h1, w, h3, g⟩ := h
  unfold slV at h3
  split at h3
  · cases h3
    obtain ⟨a, xs, rfl, a1, a2⟩ := h1
    rw [hK]
    refine .inr ⟨a, xs, rfl, SqT.un a1, fun z => g.now w ⟨a, xs, rfl, a1, ?_⟩, fun _ => g.newT w (cut_reps a2 _ _)⟩
    have z1 := cut_reps a2 lo hi
    have e : cutV xs lo hi = xs := by
      unfold cutV
      rw [z.1, z.2]
      simp
    rw [e] at z1
    exact z1
  · cases h3
    obtain ⟨a, xs, rfl, a1, a2⟩ := h1
    exact .inl (.inl ⟨a, xs, rfl, Rd.sq a1, g.newL w (cut_reps a2 _ _)⟩)
  · cases h3
    obtain ⟨a, rfl, a1⟩ := h1
    rw [← hK] at a1
    exact .inl (.inl ⟨a, _, rfl, SqL.un a1, g.newL w (cut_reps (reps_int _) _ _)⟩)
  · cases (show x = _ from h1)
    split at h3 <;> cases h3
    rename_i c
    exact .inl (.inr ⟨_, rfl, c, g.now w rfl⟩)
  · cases h3
end
end Rx
end
section
set_option maxRecDepth 100000
set_option maxHeartbeats 4000000
/-! RxC: expressions and tests. -/
namespace Rx
open PySem PySem.Spec PyProof.Rows L2

/-! ### the mirrors' ways of putting runs together -/
def getS (ρ : Rho) (i : Nat) : M D := match ρ[i]? with
  | some (some d) => M.pure d
  | _ => M.bad
def andE (ma mb : Rho → M D) (ρ : Rho) : M D := M.bind (ma ρ) fun x => M.bind (rd (truV x)) fun k => cond k (mb ρ) (M.pure x)
def orE (ma mb : Rho → M D) (ρ : Rho) : M D := M.bind (ma ρ) fun x => M.bind (rd (truV x)) fun k => cond k (M.pure x) (mb ρ)
def notE (ma : Rho → M D) (ρ : Rho) : M D := M.bind (ma ρ) fun x => M.bind (rd (truV x)) fun k => M.pure (.bl (!k))
def andT (ma mb : Rho → M Bool) (ρ : Rho) : M Bool := M.bind (ma ρ) fun k => cond k (mb ρ) (M.pure false)
def orT (ma mb : Rho → M Bool) (ρ : Rho) : M Bool := M.bind (ma ρ) fun k => cond k (M.pure true) (mb ρ)
def notT (ma : Rho → M Bool) (ρ : Rho) : M Bool := M.bind (ma ρ) fun k => M.pure (!k)
def truT (ma : Rho → M D) (ρ : Rho) : M Bool := M.bind (ma ρ) fun x => rd (truV x)
def ifE (c : Rho → M Bool) (ma mb : Rho → M D) (ρ : Rho) : M D := M.bind (c ρ) fun k => cond k (ma ρ) (mb ρ)
def binE (op : Operator) (ma mb : Rho → M D) (ρ : Rho) : M D := M.bind (ma ρ) fun x => M.bind (mb ρ) fun y => ofO (binV op x y)
def negE (ma : Rho → M D) (ρ : Rho) : M D := M.bind (ma ρ) fun x => ofO (negV x)
def cmpE (op : CmpOp) (ma mb : Rho → M D) (ρ : Rho) : M D := M.bind (ma ρ) fun x => M.bind (mb ρ) fun y => M.bind (ofO (cmpV op x y)) fun b => M.pure (.bl b)
def cmpT (op : CmpOp) (ma mb : Rho → M D) (ρ : Rho) : M Bool := M.bind (ma ρ) fun x => M.bind (mb ρ) fun y => ofO (cmpV op x y)
def chainT (op op' : CmpOp) (ma mb mc : Rho → M D) (ρ : Rho) : M Bool := M.bind (ma ρ) fun x => M.bind (mb ρ) fun y => M.bind (ofO (cmpV op x y)) fun b => cond b (M.bind (mc ρ) fun z => ofO (cmpV op' y z)) (M.pure false)
def chainE (op op' : CmpOp) (ma mb mc : Rho → M D) (ρ : Rho) : M D := M.bind (ma ρ) fun x => M.bind (mb ρ) fun y => M.bind (ofO (cmpV op x y)) fun b => cond b (M.bind (mc ρ) fun z => M.bind (ofO (cmpV op' y z)) fun b => M.pure (.bl b)) (M.pure (.bl false))
def ixE (ma mb : Rho → M D) (ρ : Rho) : M D := M.bind (ma ρ) fun x => M.bind (mb ρ) fun y => rd (ixV x y)
def intO : D → Option Int
  | .int i => some i
  | _ => none
def partO : Option (Rho → M D) → Rho → M (Option Int)
  | none, _ => M.pure none
  | some m, ρ => M.bind (m ρ) fun x => M.bind (ofO (intO x)) fun i => M.pure (some i)
def slE (ma : Rho → M D) (lo hi : Option (Rho → M D)) (ρ : Rho) : M D := M.bind (ma ρ) fun x => M.bind (partO lo ρ) fun i => M.bind (partO hi ρ) fun j => ofO (slV x i j)
/-- an argument: one, or all of a list or tuple -/
inductive Arg1 where
  | one (m : Rho → M D)
  | star (m : Rho → M D)
def itemsO : D → Option (List D)
  | .tup ds => some ds
  | .lst ds => some ds
  | _ => none
def argsE : List Arg1 → Rho → M (List D)
  | [], _ => M.pure []
  | .one m :: r, ρ => M.bind (m ρ) fun x => M.bind (argsE r ρ) fun xs => M.pure (x :: xs)
  | .star m :: r, ρ => M.bind (m ρ) fun x => M.bind (ofO (itemsO x)) fun ys => M.bind (argsE r ρ) fun xs => M.pure (ys ++ xs)
def mkT (ds : List D) : M D := if ds.length ≤ sizeLine then M.pure (.tup ds) else M.bad
def mkL (ds : List D) : M D := if ds.length ≤ sizeLine then M.pure (.lst ds) else M.bad
def tupE (as : List Arg1) (ρ : Rho) : M D := M.bind (argsE as ρ) mkT
def lstE (as : List Arg1) (ρ : Rho) : M D := M.bind (argsE as ρ) mkL
/-- a list that will be changed: a thing of the store -/
def newLoc (so : SO) : M D := fun τ => .ok (.loc τ.length) (τ ++ [so])
def locE (as : List Arg1) (ρ : Rho) : M D := M.bind (argsE as ρ) fun ds => if ds.length ≤ sizeLine then newLoc (.lst ds) else M.bad

section
variable {Γ : Gx} {X : Cx} {W : WX} {σ : L2.St} {as : Ads} {τ : Sto} {H : Hp}
theorem fin_ofO {α Y : Type} {R : Ads → Hp → α → Y → Prop} {o : Option α} {Q : Y → Hp → Prop} (h : Fin Γ R W σ as H (ofO o τ) Q) : ∃ r, o = some r ∧ ∀ y as' H', Ext as H as' H' → Wr Γ as' τ H' → R as' H' r y → Q y H' := by
  cases o with
  | none => exact h.elim
  | some r => exact ⟨r, rfl, h⟩
theorem fin_rd {α Y : Type} {R : Ads → Hp → α → Y → Prop} {g : Sto → Option α} {Q : Y → Hp → Prop} (h : Fin Γ R W σ as H (rd g τ) Q) : ∃ r, g τ = some r ∧ ∀ y as' H', Ext as H as' H' → Wr Γ as' τ H' → R as' H' r y → Q y H' := by
  unfold rd at h
  cases e : g τ with
  | none => rw [e] at h; exact h.elim
  | some r => rw [e] at h; exact ⟨r, rfl, h⟩
theorem Rep.ext {as' : Ads} {H' : Hp} {K : PySem.W.Frag} {d : D} {v : V} (h : Rep K as (Pu as H) d v) (e : Ext as H as' H') : Rep K as' (Pu as' H') d v := Rep.mono e.same e.pre _ _ h
theorem Reps.ext {as' : Ads} {H' : Hp} {K : PySem.W.Frag} {d : List D} {v : List V} (h : Reps K as (Pu as H) d v) (e : Ext as H as' H') : Reps K as' (Pu as' H') d v := Reps.mono e.same e.pre _ _ h
/-- a run goes on from a state at hand -/
theorem tG_of {α Y : Type} {R : Ads → Hp → α → Y → Prop} {m : Rho → M α} {ρ : Rho} {Q : Y → Hp → Prop} (r : Rel Γ ρ as τ σ H) (h : Fin Γ R W σ as H (m ρ τ) Q) : tG Γ W R m σ H Q := ⟨ρ, as, τ, r, h⟩
/-- two runs, then the rest: the second run's reading at the state behind the first -/
theorem tG_two {α β γ Y Z U : Type} {R1 : Ads → Hp → α → Y → Prop} {R2 : Ads → Hp → β → Z → Prop} {R3 : Ads → Hp → γ → U → Prop} {ma : Rho → M α} {mb : Rho → M β} {f : α → β → Rho → M γ} {Q : U → Hp → Prop} {Q2 : Y → Z → Hp → Prop}
    (mono : ∀ as H as' H' a y, Ext as H as' H' → R1 as H a y → R1 as' H' a y)
    (h : tG Γ W R3 (fun ρ => M.bind (ma ρ) fun a => M.bind (mb ρ) fun b => f a b ρ) σ H Q)
    (k : ∀ ρ as τ a b y z H2, Rel Γ ρ as τ σ H2 → R1 as H2 a y → R2 as H2 b z → Fin Γ R3 W σ as H2 (f a b ρ τ) Q → Q2 y z H2) : tG Γ W R1 ma σ H fun y H1 => tG Γ W R2 mb σ H1 fun z H2 => Q2 y z H2 := by
  refine tG_bind (f := fun a ρ => M.bind (mb ρ) fun b => f a b ρ) h fun ρ as τ a y H1 r ra fin => ?_
  refine tG_of r (fin.bind.imp fun z H2 ⟨as2, τ2, b, x, w, rb, fin2⟩ => ?_)
  exact k ρ as2 τ2 a b y z H2 (r.ext x w) (mono _ _ _ _ _ _ x ra) rb fin2
theorem monoD : ∀ as H as' H' a y, Ext as H as' H' → RD Γ as H a y → RD Γ as' H' a y := fun _ _ _ _ _ _ x r => Rep.ext r x

variable {a b c e : Expr} {ma mb mc : Rho → M D} {pos : Pos}
theorem e_var (C : CxR Γ X W) {i : Nat} {x : Str} (hN : X.N[i]? = some x) (hv : Vis X.env.scope x) (hd : (x == ("__debug__" : Str)) = false) (hcd : (x == ("__classdict__" : Str)) = false) : PE X (.Name x pos) (tE Γ W fun ρ => getS ρ i) := by
  refine PE.imp (pe_var hN hv hd hcd) fun σ H Q h => ?_
  obtain ⟨ρ, as, τ, r, h⟩ := h
  have h : Fin Γ (RD Γ) W σ as H (getS ρ i τ) Q := h
  cases q : ρ[i]? with
  | none => unfold getS at h; rw [q] at h; exact h.elim
  | some o =>
    cases o with
    | none => unfold getS at h; rw [q] at h; exact h.elim
    | some d =>
      unfold getS at h
      rw [q] at h
      obtain ⟨v, e1, e2⟩ := r.env.at_ i d q
      exact ⟨v, e1, Fin.pure (τ := τ) h r.wr e2⟩
theorem e_const {x : Expr} {v : V} {d : D} (h : PE X x (tC v)) (k : ∀ as H, Rep Γ.K as (Pu as H) d v) : PE X x (tE Γ W fun _ => M.pure d) := PE.imp h fun σ H Q q => by
  obtain ⟨ρ, as, τ, r, q⟩ := q
  exact q.pure r.wr (k _ _)
theorem e_int {i j} : PE X (.Constant (.int i) j pos) (tE Γ W fun _ => M.pure (.int i)) := e_const pe_int fun _ _ => rfl
theorem e_bl {i j} : PE X (.Constant (.bool i) j pos) (tE Γ W fun _ => M.pure (.bl i)) := e_const pe_bl fun _ _ => rfl
theorem e_non {j} : PE X (.Constant .none j pos) (tE Γ W fun _ => M.pure .non) := e_const pe_non fun _ _ => rfl
theorem e_str {i j} : PE X (.Constant (.str i) j pos) (tE Γ W fun _ => M.pure (.str i)) := e_const pe_str fun _ _ => rfl
theorem e_never : PE X e (tE Γ W fun _ => M.bad) := ⟨fun pins s σ H Q I h => by obtain ⟨_, _, _, _, h⟩ := h; exact h.elim⟩
theorem t_never : PT X e (tT Γ W fun _ => M.bad) := ⟨fun pins s σ H Q I h => by obtain ⟨_, _, _, _, h⟩ := h; exact h.elim⟩
theorem e_bin (C : CxR Γ X W) {op : Operator} (ha : PE X a (tE Γ W ma)) (hb : PE X b (tE Γ W mb)) : PE X (.BinOp a op b pos) (tE Γ W (binE op ma mb)) := by
  refine PE.imp (pe_op (binR C.K op) ha hb) fun σ H Q h => ?_
  refine tG_two (f := fun x y _ => ofO (binV op x y)) monoD h fun ρ as τ x y vx vy H2 r rx ry fin => ?_
  obtain ⟨z, hz, g⟩ := fin_ofO fin
  exact ⟨as, τ, x, y, z, rx, ry, r.wr, hz, g⟩
theorem e_neg (ha : PE X a (tE Γ W ma)) : PE X (.UnaryOp .USub a pos) (tE Γ W (negE ma)) := by
  refine PE.imp (pe_un (negR (Γ := Γ)) ha) fun σ H Q h => ?_
  refine tG_bind (f := fun x _ => ofO (negV x)) h fun ρ as τ x vx H1 r rx fin => ?_
  obtain ⟨z, hz, g⟩ := fin_ofO fin
  exact ⟨as, τ, x, z, rx, r.wr, hz, g⟩
theorem cmp_fin {op : CmpOp} {x y : D} {vx vy : V} {ρ : Rho} {Q : VK} (r : Rel Γ ρ as τ σ H) (rx : RD Γ as H x vx) (ry : RD Γ as H y vy) (fin : Fin Γ (RD Γ) W σ as H (M.bind (ofO (cmpV op x y)) (fun b => M.pure (.bl b)) τ) Q) : r2V Γ (bV (cmpV op)) vx vy H Q := by
  cases e : cmpV op x y with
  | none => rw [e] at fin; exact fin.elim
  | some b =>
    rw [e] at fin
    exact ⟨as, τ, x, y, .bl b, rx, ry, r.wr, by unfold bV; rw [e]; rfl, fin⟩
theorem e_cmp (C : CxR Γ X W) (hu : Units X) {op : CmpOp} (ha : PE X a (tE Γ W ma)) (hb : PE X b (tE Γ W mb)) (hm : behindInMarks op b = false) : PE X (.Compare a [op] [b] pos) (tE Γ W (cmpE op ma mb)) := by
  refine PE.imp (pe_cmpR (cmpVR C.K hu op) ha hb hm) fun σ H Q h => ?_
  exact tG_two (f := fun x y _ => M.bind (ofO (cmpV op x y)) fun b => M.pure (D.bl b)) monoD h fun ρ as τ x y vx vy H2 r rx ry fin => cmp_fin r rx ry fin
theorem cmp_finT {op : CmpOp} {x y : D} {vx vy : V} {ρ : Rho} {Q : Bool → Hp → Prop} (r : Rel Γ ρ as τ σ H) (rx : RD Γ as H x vx) (ry : RD Γ as H y vy) (fin : Fin Γ RB W σ as H (ofO (cmpV op x y) τ) Q) : r2V Γ (bV (cmpV op)) vx vy H fun x H' => ∃ k, x = .bl k ∧ Q k H' := by
  cases e : cmpV op x y with
  | none => rw [e] at fin; exact fin.elim
  | some b =>
    rw [e] at fin
    exact ⟨as, τ, x, y, .bl b, rx, ry, r.wr, by unfold bV; rw [e]; rfl, fun v as' H' x w rv => ⟨b, rv, fin b as' H' x w rfl⟩⟩
theorem t_cmp (C : CxR Γ X W) (hu : Units X) {op : CmpOp} (ha : PE X a (tE Γ W ma)) (hb : PE X b (tE Γ W mb)) (hm : behindInMarks op b = false) : PT X (.Compare a [op] [b] pos) (tT Γ W (cmpT op ma mb)) := by
  refine PT.imp (pt_cmpR (cmpVR C.K hu op) ha hb hm) fun σ H Q h => ?_
  exact tG_two (f := fun x y _ => ofO (cmpV op x y)) monoD h fun ρ as τ x y vx vy H2 r rx ry fin => cmp_finT r rx ry fin
theorem t_chain (C : CxR Γ X W) (hu : Units X) {op op' : CmpOp} (ha : PE X a (tE Γ W ma)) (hb : PE X b (tE Γ W mb)) (hc : PE X c (tE Γ W mc)) (hm : lastMarks [op, op'] [b, c] = false) : PT X (.Compare a [op, op'] [b, c] pos) (tT Γ W (chainT op op' ma mb mc)) := by
  refine PT.imp (pt_chain (cmpVR C.K hu op) (cmpVR C.K hu op') ha hb hc hm) fun σ H Q h => ?_
  refine tG_two (f := fun x y ρ => M.bind (ofO (cmpV op x y)) fun b => cond b (M.bind (mc ρ) fun z => ofO (cmpV op' y z)) (M.pure false)) monoD h fun ρ as τ x y vx vy H2 r rx ry fin => ?_
  cases e : cmpV op x y with
  | none => rw [e] at fin; exact fin.elim
  | some b =>
    rw [e] at fin
    refine ⟨as, τ, x, y, .bl b, rx, ry, r.wr, by unfold bV; rw [e]; rfl, fun v as' H' x1 w rv => ⟨b, rv, ?_⟩⟩
    have fin2 : Fin Γ RB W σ as' H' ((cond b (M.bind (mc ρ) fun z => ofO (cmpV op' y z)) (M.pure false) : M Bool) τ) Q := Fin.ext fin x1
    have r2 := r.ext x1 w
    cases b with
    | true =>
      rw [if_pos rfl]
      refine tG_of r2 ((Fin.bind (f := fun z => ofO (cmpV op' y z)) fin2).imp fun vz H3 ⟨as3, τ3, z, x3, w3, rz, fin3⟩ => ?_)
      exact cmp_finT (r2.ext x3 w3) (Rep.ext ry (x1.trans x3)) rz fin3
    | false =>
      rw [if_neg Bool.false_ne_true]
      exact ⟨false, rfl, fin2.pure r2.wr rfl⟩
theorem e_chain (C : CxR Γ X W) (hu : Units X) {op op' : CmpOp} (ha : PE X a (tE Γ W ma)) (hb : PE X b (tE Γ W mb)) (hc : PE X c (tE Γ W mc)) (hm : lastMarks [op, op'] [b, c] = false) : PE X (.Compare a [op, op'] [b, c] pos) (tE Γ W (chainE op op' ma mb mc)) := by
  refine PE.imp (pe_chain (cmpVR C.K hu op) (cmpVR C.K hu op') ha hb hc hm) fun σ H Q h => ?_
  refine tG_two (f := fun x y ρ => M.bind (ofO (cmpV op x y)) fun b => cond b (M.bind (mc ρ) fun z => M.bind (ofO (cmpV op' y z)) fun b => M.pure (D.bl b)) (M.pure (D.bl false))) monoD h fun ρ as τ x y vx vy H2 r rx ry fin => ?_
  cases e : cmpV op x y with
  | none => rw [e] at fin; exact fin.elim
  | some b =>
    rw [e] at fin
    refine ⟨as, τ, x, y, .bl b, rx, ry, r.wr, by unfold bV; rw [e]; rfl, fun v as' H' x1 w rv => ⟨b, rv, ?_⟩⟩
    have fin2 : Fin Γ (RD Γ) W σ as' H' ((cond b (M.bind (mc ρ) fun z => M.bind (ofO (cmpV op' y z)) fun b => M.pure (.bl b)) (M.pure (.bl false)) : M D) τ) Q := Fin.ext fin x1
    have r2 := r.ext x1 w
    cases b with
    | true =>
      rw [if_pos rfl]
      refine tG_of r2 ((Fin.bind (f := fun z => M.bind (ofO (cmpV op' y z)) fun b => M.pure (D.bl b)) fin2).imp fun vz H3 ⟨as3, τ3, z, x3, w3, rz, fin3⟩ => ?_)
      exact cmp_fin (r2.ext x3 w3) (Rep.ext ry (x1.trans x3)) rz fin3
    | false =>
      rw [if_neg Bool.false_ne_true]
      exact fin2.pure r2.wr rfl
/-! ### truth: and, or, not, if -/
variable {mA mB : Rho → M Bool} {rest : List Expr}
theorem bl_eq {k k' : Bool} (h : RB as H k k') : k = k' := h
theorem t_not (ha : PT X a (tT Γ W mA)) : PT X (.UnaryOp .Not a pos) (tT Γ W (notT mA)) := by
  refine PT.imp (pt_not ha) fun σ H Q h => ?_
  refine tG_bind (f := fun k _ => M.pure (!k)) h fun ρ as τ k k' H1 r e fin => ?_
  cases (show k = k' from e)
  exact fin.pure r.wr rfl
theorem t_and1 (ha : PT X a (tT Γ W mA)) : PW X (.BoolOp .And [a] pos) (tT Γ W mA) := pw_and1 ha
theorem t_or1 (ha : PT X a (tT Γ W mA)) : PW X (.BoolOp .Or [a] pos) (tT Γ W mA) := pw_or1 ha
theorem PW.imp {e : Expr} {t t' : TT} (h : PW X e t) (k : ∀ σ H Q, t' σ H Q → t σ H Q) : PW X e t' := ⟨fun wh pins s σ H Q I q => h.run wh pins s σ H Q I (k _ _ _ q)⟩
theorem t_and (ha : PT X a (tT Γ W mA)) (hb : PW X (.BoolOp .And (b :: rest) pos) (tT Γ W mB)) : PW X (.BoolOp .And (a :: b :: rest) pos) (tT Γ W (andT mA mB)) := by
  refine PW.imp (pw_and ha hb) fun σ H Q h => ?_
  refine tG_bind (f := fun k ρ => cond k (mB ρ) (M.pure false)) h fun ρ as τ k k' H1 r e fin => ?_
  cases (show k = k' from e)
  cases k with
  | true => rw [if_pos rfl]; exact tG_of r fin
  | false => rw [if_neg Bool.false_ne_true]; exact fin.pure r.wr rfl
theorem t_or (ha : PT X a (tT Γ W mA)) (hb : PW X (.BoolOp .Or (b :: rest) pos) (tT Γ W mB)) : PW X (.BoolOp .Or (a :: b :: rest) pos) (tT Γ W (orT mA mB)) := by
  refine PW.imp (pw_or ha hb) fun σ H Q h => ?_
  refine tG_bind (f := fun k ρ => cond k (M.pure true) (mB ρ)) h fun ρ as τ k k' H1 r e fin => ?_
  cases (show k = k' from e)
  cases k with
  | true => rw [if_pos rfl]; exact fin.pure r.wr rfl
  | false => rw [if_neg Bool.false_ne_true]; exact tG_of r fin
theorem t_tru (C : CxR Γ X W) (ha : PE X a (tE Γ W ma)) (he : ∀ whole, isTrue a X.env whole = (do let v ← whole; standAt a.pos; holding [v] (truthy v))) : PT X a (tT Γ W (truT ma)) := by
  refine PT.imp (pt_truth ha he) fun σ H Q h => ?_
  refine tG_bind (f := fun x _ => rd (truV x)) h fun ρ as τ x vx H1 r rx fin => ?_
  obtain ⟨k, hk, g⟩ := fin_rd fin
  exact ⟨k, truV_ok C.K r.wr rx hk, g k as H1 Ext.refl r.wr rfl⟩
theorem e_and1 (ha : PE X a (tE Γ W ma)) {op : BoolOp} : PE X (.BoolOp op [a] pos) (tE Γ W ma) := pe_one ha
theorem e_and (C : CxR Γ X W) (ha : PE X a (tE Γ W ma)) (hb : PE X (.BoolOp .And (b :: rest) pos) (tE Γ W mb)) : PE X (.BoolOp .And (a :: b :: rest) pos) (tE Γ W (andE ma mb)) := by
  refine PE.imp (pe_andT ha hb) fun σ H Q h => ?_
  refine tG_bind (f := fun x ρ => M.bind (rd (truV x)) fun k => cond k (mb ρ) (M.pure x)) h fun ρ as τ x vx H1 r rx fin => ?_
  unfold M.bind rd at fin
  cases e : truV x τ with
  | none => rw [e] at fin; exact fin.elim
  | some k =>
    rw [e] at fin
    refine ⟨k, truV_ok C.K r.wr rx e, ?_⟩
    cases k with
    | true => rw [if_pos rfl]; exact tG_of r fin
    | false => rw [if_neg Bool.false_ne_true]; exact Fin.pure (τ := τ) fin r.wr rx
theorem e_or (C : CxR Γ X W) (ha : PE X a (tE Γ W ma)) (hb : PE X (.BoolOp .Or (b :: rest) pos) (tE Γ W mb)) : PE X (.BoolOp .Or (a :: b :: rest) pos) (tE Γ W (orE ma mb)) := by
  refine PE.imp (pe_orT ha hb) fun σ H Q h => ?_
  refine tG_bind (f := fun x ρ => M.bind (rd (truV x)) fun k => cond k (M.pure x) (mb ρ)) h fun ρ as τ x vx H1 r rx fin => ?_
  unfold M.bind rd at fin
  cases e : truV x τ with
  | none => rw [e] at fin; exact fin.elim
  | some k =>
    rw [e] at fin
    refine ⟨k, truV_ok C.K r.wr rx e, ?_⟩
    cases k with
    | true => rw [if_pos rfl]; exact Fin.pure (τ := τ) fin r.wr rx
    | false => rw [if_neg Bool.false_ne_true]; exact tG_of r fin
theorem e_not (C : CxR Γ X W) (ha : PE X a (tE Γ W ma)) : PE X (.UnaryOp .Not a pos) (tE Γ W (notE ma)) := by
  refine PE.imp (pe_notT ha) fun σ H Q h => ?_
  refine tG_bind (f := fun x ρ => M.bind (rd (truV x)) fun k => M.pure (D.bl (!k))) h fun ρ as τ x vx H1 r rx fin => ?_
  unfold M.bind rd at fin
  cases e : truV x τ with
  | none => rw [e] at fin; exact fin.elim
  | some k =>
    rw [e] at fin
    exact ⟨k, truV_ok C.K r.wr rx e, Fin.pure (τ := τ) (a := D.bl (!k)) (y := V.bl (!k)) fin r.wr rfl⟩
theorem e_if (hc : PT X c (tT Γ W mA)) (ha : PE X a (tE Γ W ma)) (hb : PE X b (tE Γ W mb)) : PE X (.IfExp c a b pos) (tE Γ W (ifE mA ma mb)) := by
  refine PE.imp (pe_ifExp hc ha hb) fun σ H Q h => ?_
  refine tG_bind (f := fun k ρ => cond k (ma ρ) (mb ρ)) h fun ρ as τ k k' H1 r e fin => ?_
  cases (show k = k' from e)
  cases k with
  | true => rw [if_pos rfl]; exact tG_of r fin
  | false => rw [if_neg Bool.false_ne_true]; exact tG_of r fin
/-! ### subscripts -/
theorem e_ix (C : CxR Γ X W) (ha : PE X a (tE Γ W ma)) (hb : PE X b (tE Γ W mb)) (hs : PlainIx b) : PE X (.Subscript a b pos) (tE Γ W (ixE ma mb)) := by
  refine PE.imp (pe_ix (ixVR C.K) ha hb hs) fun σ H Q h => ?_
  refine tG_two (f := fun x y _ => rd (ixV x y)) monoD h fun ρ as τ x y vx vy H2 r rx ry fin => ?_
  obtain ⟨z, hz, g⟩ := fin_rd fin
  exact ⟨as, τ, x, y, z, rx, ry, r.wr, hz, g⟩
/-- a part of a slice, perhaps none -/
def ROI : Ads → Hp → Option Int → Option Int → Prop := fun _ _ a b => a = b
def tO (Γ : Gx) (W : WX) (m : Rho → M (Option Int)) : TO := tG Γ W ROI m
theorem o_none : PO X none (tO Γ W (partO none)) := by
  refine ⟨fun pins s σ H Q I h => ?_⟩
  exact po_none.run pins s σ H Q I (by obtain ⟨ρ, as, τ, r, h⟩ := h; exact Fin.pure (τ := τ) h r.wr rfl)
theorem o_some (ha : PE X a (tE Γ W ma)) : PO X (some a) (tO Γ W (partO (some ma))) := by
  refine ⟨fun pins s σ H Q I h => ?_⟩
  refine (po_some ha).run pins s σ H Q I ?_
  refine tG_bind (f := fun x _ => M.bind (ofO (intO x)) fun i => M.pure (some i)) h fun ρ as τ x vx H1 r rx fin => ?_
  cases x <;> first | exact fin.elim | skip
  cases (show vx = _ from rx)
  exact ⟨_, rfl, Fin.pure (τ := τ) fin r.wr rfl⟩
theorem e_sl (C : CxR Γ X W) {lo hi : Option Expr} {ml mh : Option (Rho → M D)} {p2 : Pos} (ha : PE X a (tE Γ W ma)) (hl : PO X lo (tO Γ W (partO ml))) (hh : PO X hi (tO Γ W (partO mh))) : PE X (.Subscript a (.Slice lo hi none p2) pos) (tE Γ W (slE ma ml mh)) := by
  refine PE.imp (pe_slice (slVR C.K) ha hl hh) fun σ H Q h => ?_
  obtain ⟨ρ, as, τ, r, h⟩ := h
  refine tG_of r ((Fin.bind (f := fun x => M.bind (partO ml ρ) fun i => M.bind (partO mh ρ) fun j => ofO (slV x i j)) h).imp fun vx H1 ⟨as1, τ1, x, x1, w1, rx, f1⟩ => ?_)
  refine tG_of (r.ext x1 w1) ((Fin.bind (f := fun i => M.bind (partO mh ρ) fun j => ofO (slV x i j)) f1).imp fun i' H2 ⟨as2, τ2, i, x2, w2, ri, f2⟩ => ?_)
  refine tG_of (r.ext (x1.trans x2) w2) ((Fin.bind (f := fun j => ofO (slV x i j)) f2).imp fun j' H3 ⟨as3, τ3, j, x3, w3, rj, f3⟩ => ?_)
  cases (show i = i' from ri)
  cases (show j = j' from rj)
  obtain ⟨z, hz, g⟩ := fin_ofO f3
  exact ⟨as3, τ3, x, z, Rep.ext rx (x2.trans x3), w3, hz, g⟩
/-! ### argument lists, displays -/
variable {es : List Expr} {ms : List Arg1}
theorem a_nil : PA X [] (tA Γ W (argsE [])) := PA.imp pa_nil fun σ H Q h => by
  obtain ⟨ρ, as, τ, r, h⟩ := h
  exact Fin.pure (τ := τ) h r.wr rfl
theorem monoDs : ∀ as H as' H' a y, Ext as H as' H' → RDs Γ as H a y → RDs Γ as' H' a y := fun _ _ _ _ _ _ x r => Reps.ext r x
theorem a_cons (ha : PE X a (tE Γ W ma)) (hr : PA X es (tA Γ W (argsE ms))) (hs : starEach (a :: es) X.env = (false, eval a X.env) :: starEach es X.env) : PA X (a :: es) (tA Γ W (argsE (.one ma :: ms))) := by
  refine PA.imp (pa_cons ha hr hs) fun σ H Q h => ?_
  refine tG_two (f := fun x xs _ => M.pure (x :: xs)) monoD h fun ρ as τ x xs vx vxs H2 r rx rxs fin => ?_
  exact Fin.pure (τ := τ) fin r.wr (show RDs Γ _ _ _ _ from Reps.cons rx rxs)
theorem a_star (C : CxR Γ X W) {p : Pos} (ha : PE X a (tE Γ W ma)) (hr : PA X es (tA Γ W (argsE ms))) : PA X (.Starred a p :: es) (tA Γ W (argsE (.star ma :: ms))) := by
  refine PA.imp (StX.pa_star ha hr) fun σ H Q h => ?_
  obtain ⟨ρ, as, τ, r, h⟩ := h
  refine tG_of r ((Fin.bind (f := fun x => M.bind (ofO (itemsO x)) fun ys => M.bind (argsE ms ρ) fun xs => M.pure (ys ++ xs)) h).imp fun vx H1 ⟨as1, τ1, x, x1, w1, rx, f1⟩ => ?_)
  cases e : itemsO x with
  | none => rw [e] at f1; exact f1.elim
  | some ys =>
    rw [e] at f1
    have key : ∃ p xs, vx = V.ref p ∧ (SqT X.K H1 p xs ∨ SqL X.K H1 p xs) ∧ Reps Γ.K as1 (Pu as1 H1) ys xs := by
      cases x <;> first | cases e | skip
      · obtain ⟨p, xs, rfl, a1, a2⟩ := rx
        exact ⟨p, xs, rfl, .inl (by rw [C.K]; exact SqT.un a1), a2⟩
      · obtain ⟨p, xs, rfl, a1, a2⟩ := rx
        exact ⟨p, xs, rfl, .inr (Rd.sq a1), a2⟩
    obtain ⟨p, xs, e1, e2, e3⟩ := key
    refine ⟨p, xs, e1, e2, ?_⟩
    refine tG_of (r.ext x1 w1) ((Fin.bind (f := fun xs => M.pure (ys ++ xs)) f1).imp fun vs H2 ⟨as2, τ2, zs, x2, w2, rz, f2⟩ => ?_)
    exact Fin.pure (τ := τ2) f2 w2 (show RDs Γ _ _ _ _ from (e3.ext x2).append rz)
theorem e_tup {k : Nat} (h : PA X es (tA Γ W (argsE ms))) : PE X (.Tuple es k pos) (tE Γ W (tupE ms)) := by
  refine PE.imp (pe_tup h) fun σ H Q h => ?_
  refine tG_bind (f := fun ds _ => mkT ds) h fun ρ as τ ds xs H1 r rx fin => ?_
  unfold mkT at fin
  by_cases hz : ds.length ≤ sizeLine
  · rw [if_pos hz] at fin
    exact ⟨by rw [(show Reps _ _ _ _ _ from rx).length]; exact hz, fun p hp => fin _ as _ (Ext.new r.wr hp) (r.wr.new hp) (rep_tup r.wr hp rx)⟩
  · rw [if_neg hz] at fin
    exact fin.elim
theorem e_lst (h : PA X es (tA Γ W (argsE ms))) : PE X (.List es pos) (tE Γ W (lstE ms)) := by
  refine PE.imp (pe_lst h) fun σ H Q h => ?_
  refine tG_bind (f := fun ds _ => mkL ds) h fun ρ as τ ds xs H1 r rx fin => ?_
  unfold mkL at fin
  by_cases hz : ds.length ≤ sizeLine
  · rw [if_pos hz] at fin
    exact ⟨by rw [(show Reps _ _ _ _ _ from rx).length]; exact hz, fun p hp => fin _ as _ (Ext.new r.wr hp) (r.wr.new hp) (rep_lst r.wr hp rx)⟩
  · rw [if_neg hz] at fin
    exact fin.elim
/-- a new thing of the store -/
def Ads.snoc (as : Ads) (p : Addr) : Ads := ⟨as.as ++ [p], as.hid⟩
theorem Pu_snoc {p : Addr} {o : HO} (hp : H p = none) : Pu (as.snoc p) (upd H p o) = Pu as H := by
  funext b
  unfold Pu Ads.snoc
  by_cases hb : b = p
  · subst hb
    rw [if_pos (by simp), hp]
    split <;> rfl
  · rw [upd_ne hb]
    by_cases h : b ∈ as.as ++ as.hid
    · rw [if_pos, if_pos h]
      simp only [List.mem_append, List.mem_singleton] at h ⊢
      rcases h with h | h
      · exact .inl (.inl h)
      · exact .inr h
    · rw [if_neg, if_neg h]
      simp only [List.mem_append, List.mem_singleton] at h ⊢
      rintro ((h1 | h1) | h1)
      · exact h (.inl h1)
      · exact hb h1
      · exact h (.inr h1)
theorem ext_loc (w : Wr Γ as τ H) {p : Addr} {o : HO} (hp : H p = none) : Ext as H (as.snoc p) (upd H p o) := ⟨List.prefix_append _ _, rfl, by rw [Pu_snoc hp]; exact Same.refl _, fun b hb => upd_ne fun e => w.fresh hp (List.mem_append_right _ (e ▸ hb))⟩
theorem wr_loc (w : Wr Γ as τ H) {p : Addr} {o : HO} {so : SO} (hp : H p = none) (h : SoR Γ (as.snoc p) (upd H p o) p so) : Wr Γ (as.snoc p) (τ ++ [so]) (upd H p o) := by
  have kp : ∀ b u, H b = some u → upd H p o b = some u := fun b u e => by rw [upd_ne (ne_of_none e hp)]; exact e
  have nd := w.nd
  have fr := w.fresh hp
  refine ⟨by simp [Ads.snoc, w.len], ?_, fun b hb => let ⟨u, e⟩ := w.live b hb; ⟨u, kp b _ e⟩, fun n s a h1 h2 => ?_, w.tab.ext kp⟩
  · show ((as.as ++ [p]) ++ as.hid).Nodup
    simp only [List.nodup_append, List.mem_append, List.mem_singleton, not_or] at nd fr ⊢
    refine ⟨⟨nd.1, by simp, fun a ha b hb => ?_⟩, nd.2.1, fun a ha b hb => ?_⟩
    · subst hb
      rintro rfl
      exact fr.1 ha
    · rcases ha with ha | ha
      · exact nd.2.2 a ha b hb
      · subst ha
        rintro rfl
        exact fr.2 hb
  · by_cases hn : n < τ.length
    · rw [List.getElem?_append_left hn] at h1
      have h2 : (as.as ++ [p])[n]? = some a := h2
      rw [List.getElem?_append_left (by rw [w.len]; exact hn)] at h2
      exact (w.ob n s a h1 h2).ext (ext_loc w hp).same (List.prefix_append _ _) (kp a)
    · have hn2 : n = τ.length := by
        have := (List.getElem?_eq_some_iff.mp h1).1
        simp at this
        omega
      subst hn2
      have h2 : (as.as ++ [p])[τ.length]? = some a := h2
      rw [List.getElem?_append_right (Nat.le_refl _)] at h1
      rw [List.getElem?_append_right (by rw [w.len]; exact Nat.le_refl _)] at h2
      simp at h1
      rw [w.len] at h2
      simp at h2
      subst h1 h2
      exact h
theorem e_loc (h : PA X es (tA Γ W (argsE ms))) : PE X (.List es pos) (tE Γ W (locE ms)) := by
  refine PE.imp (pe_lst h) fun σ H Q h => ?_
  refine tG_bind (f := fun ds _ => if ds.length ≤ sizeLine then newLoc (.lst ds) else M.bad) h fun ρ as τ ds xs H1 r rx fin => ?_
  by_cases hz : ds.length ≤ sizeLine
  · rw [if_pos hz] at fin
    refine ⟨by rw [(show Reps _ _ _ _ _ from rx).length]; exact hz, fun p hp => fin _ (as.snoc p) _ (ext_loc r.wr hp) (wr_loc r.wr hp ⟨xs, upd_same, ?_⟩) ⟨p, ?_, rfl⟩⟩
    · exact Reps.ext rx (ext_loc r.wr hp)
    · show (as.as ++ [p])[τ.length]? = some p
      rw [← r.wr.len]
      simp
  · rw [if_neg hz] at fin
    exact fin.elim
end
end Rx
end
section
set_option maxRecDepth 100000
set_option maxHeartbeats 4000000
/-! RxD: calls of built-in functions, of methods of built-in types, of defs of the text. -/
namespace Rx
open PySem PySem.Spec PyProof.Rows L2

/-! ### built-in functions by values -/
def tyD (x : D) (τ : Sto) : Option String := match x with
  | .non => some "NoneType"
  | .bl _ => some "bool"
  | .int _ => some "int"
  | .str _ => some "str"
  | .tup _ => some "tuple"
  | .lst _ => some "list"
  | .loc n => (match τ[n]? with
    | some (.lst _) => some "list"
    | some (.dct _) => some "dict"
    | _ => none)
  | _ => none
def lenV : List D → Sto → Option D
  | [.str y], _ => if y.length ≤ sizeLine then some (.int y.length) else none
  | [.tup ds], _ => some (.int ds.length)
  | [.lst ds], _ => some (.int ds.length)
  | [.loc n], τ => (match τ[n]? with
    | some (.lst ds) => some (.int ds.length)
    | _ => none)
  | [.scr ns], _ => some (.int ns.length)
  | _, _ => none
def isiV : List D → Sto → Option D
  | [x, .ty n], τ => (tyD x τ).bind fun t => (kitB t n).map .bl
  | _, _ => none
def intV : List D → Sto → Option D
  | [.int i], _ => some (.int i)
  | [.bl b], _ => some (.int (if b then 1 else 0))
  | [.str a], _ => if a.length ≤ 640 then (PySem.intText? a).map .int else none
  | _, _ => none
def strV : List D → Sto → Option D
  | [.int i], _ => if i.natAbs.log2 < 1920 then some (.str (toString i)) else none
  | _, _ => none
def absV : List D → Sto → Option D
  | [.int i], _ => some (.int (if i < 0 then -i else i))
  | _, _ => none
def maxV : List D → Sto → Option D
  | [.int i, .int j], _ => some (.int (if j > i then j else i))
  | _, _ => none
def minV : List D → Sto → Option D
  | [.int i, .int j], _ => some (.int (if j < i then j else i))
  | _, _ => none
def intsO : List D → Option (List Int)
  | [] => some []
  | .int i :: r => (intsO r).map (i :: ·)
  | _ => none
def blsO : List D → Option (List Bool)
  | [] => some []
  | .bl i :: r => (blsO r).map (i :: ·)
  | _ => none
def strsO : List D → Option (List Str)
  | [] => some []
  | .str i :: r => (strsO r).map (i :: ·)
  | _ => none
def sumV : List D → Sto → Option D
  | [.lst ds], _ => (intsO ds).map fun ns => .int ns.sum
  | _, _ => none
def allV : List D → Sto → Option D
  | [.lst ds], _ => (blsO ds).map fun bs => .bl (bs.all id)
  | _, _ => none
def anyV : List D → Sto → Option D
  | [.lst ds], _ => (blsO ds).map fun bs => .bl (bs.any id)
  | _, _ => none
def sortI (ns : List Int) : List Int := ns.mergeSort (fun a b => decide (a ≤ b))
def sortedV : List D → Sto → Option D
  | [.lst ds], _ => (intsO ds).map fun ns => .lst ((sortI ns).map .int)
  | _, _ => none
def tupleV : List D → Sto → Option D
  | [.lst ds], _ => some (.tup ds)
  | [.tup ds], _ => some (.tup ds)
  | _, _ => none
def listV : List D → Sto → Option D
  | [.lst ds], _ => some (.lst ds)
  | [.tup ds], _ => some (.lst ds)
  | _, _ => none
def divmodV : List D → Sto → Option D
  | [.int i, .int j], _ => if 0 < j ∧ j < 1073741824 then some (.tup [.int (i / j), .int (i % j)]) else none
  | _, _ => none
theorem intsO_some : ∀ {ds : List D} {ns : List Int}, intsO ds = some ns → ds = ns.map .int
  | [], ns, h => by cases h; rfl
  | d :: ds, ns, h => by
    cases d <;> first | cases h | skip
    obtain ⟨r, h1, rfl⟩ := Option.map_eq_some_iff.mp (show (intsO ds).map _ = some ns from h)
    rw [intsO_some h1]
    rfl
theorem blsO_some : ∀ {ds : List D} {ns : List Bool}, blsO ds = some ns → ds = ns.map .bl
  | [], ns, h => by cases h; rfl
  | d :: ds, ns, h => by
    cases d <;> first | cases h | skip
    obtain ⟨r, h1, rfl⟩ := Option.map_eq_some_iff.mp (show (blsO ds).map _ = some ns from h)
    rw [blsO_some h1]
    rfl
theorem strsO_some : ∀ {ds : List D} {ns : List Str}, strsO ds = some ns → ds = ns.map .str
  | [], ns, h => by cases h; rfl
  | d :: ds, ns, h => by
    cases d <;> first | cases h | skip
    obtain ⟨r, h1, rfl⟩ := Option.map_eq_some_iff.mp (show (strsO ds).map _ = some ns from h)
    rw [strsO_some h1]
    rfl
theorem intsO_map (ns : List Int) : intsO (ns.map .int) = some ns := by
  induction ns with
  | nil => rfl
  | cons a r ih => show (intsO (r.map .int)).map _ = _; rw [ih]; rfl
theorem blsO_map (ns : List Bool) : blsO (ns.map .bl) = some ns := by
  induction ns with
  | nil => rfl
  | cons a r ih => show (blsO (r.map .bl)).map _ = _; rw [ih]; rfl
theorem strsO_map (ns : List Str) : strsO (ns.map .str) = some ns := by
  induction ns with
  | nil => rfl
  | cons a r ih => show (strsO (r.map .str)).map _ = _; rw [ih]; rfl
section
variable {K : PySem.W.Frag} {as : Ads} {G : Hp}
theorem Reps.ints : ∀ {ns : List Int} {xs : List V}, Reps K as G (ns.map .int) xs → xs = ns.map V.int
  | [], _, h => h
  | n :: ns, _, h => by
    obtain ⟨x, r, rfl, h1, h2⟩ := h
    rw [show x = _ from h1, Reps.ints h2]
    rfl
theorem Reps.of_ints : ∀ {ns : List Int}, Reps K as G (ns.map .int) (ns.map V.int)
  | [] => rfl
  | _ :: _ => ⟨_, _, rfl, rfl, Reps.of_ints⟩
theorem Reps.bls : ∀ {ns : List Bool} {xs : List V}, Reps K as G (ns.map .bl) xs → xs = ns.map V.bl
  | [], _, h => h
  | n :: ns, _, h => by
    obtain ⟨x, r, rfl, h1, h2⟩ := h
    rw [show x = _ from h1, Reps.bls h2]
    rfl
theorem Reps.strs : ∀ {ns : List Str} {xs : List V}, Reps K as G (ns.map .str) xs → xs = ns.map V.str
  | [], _, h => h
  | n :: ns, _, h => by
    obtain ⟨x, r, rfl, h1, h2⟩ := h
    rw [show x = _ from h1, Reps.strs h2]
    rfl
theorem Reps.of_strs : ∀ {ns : List Str}, Reps K as G (ns.map .str) (ns.map V.str)
  | [] => rfl
  | _ :: _ => ⟨_, _, rfl, rfl, Reps.of_strs⟩
theorem Reps.one {d : D} {xs : List V} (h : Reps K as G [d] xs) : ∃ x, xs = [x] ∧ Rep K as G d x := by
  obtain ⟨x, r, rfl, h1, h2⟩ := h
  rw [show r = [] from h2]
  exact ⟨x, rfl, h1⟩
theorem Reps.two {d e : D} {xs : List V} (h : Reps K as G [d, e] xs) : ∃ x y, xs = [x, y] ∧ Rep K as G d x ∧ Rep K as G e y := by
  obtain ⟨x, r, rfl, h1, h2⟩ := h
  obtain ⟨y, rfl, h3⟩ := Reps.one h2
  exact ⟨x, y, rfl, h1, h3⟩
end
section
variable {Γ : Gx} {X : Cx} {W : WX}
theorem call_rel {f : Value} {r r' : List V → Hp → VK → Prop} (h : CallR X f r) (k : ∀ xs H Q, r' xs H Q → r xs H Q) : CallR X f r' := fun pins s σ H xs us Q I rs q => h pins s σ H xs us Q I rs (k _ _ _ q)
theorem lenR (hK : X.K = Γ.K) : CallR X (.builtin "len") (rLV Γ lenV) := call_rel call_len fun xs H Q h => by
  obtain ⟨as, τ, ds, r, h1, w, h3, g⟩ := h
  unfold lenV at h3
  split at h3
  · obtain ⟨x, rfl, rx⟩ := h1.one
    split at h3 <;> cases h3
    rename_i c
    cases (show x = _ from rx)
    exact ⟨_, _, rfl, ⟨c, rfl⟩, g.now w rfl⟩
  · obtain ⟨x, rfl, a, xs, rfl, a1, a2⟩ := h1.one
    cases h3
    exact ⟨_, xs.length, rfl, .inr ⟨xs, by rw [hK]; exact SqT.un a1, rfl⟩, g.now w (by rw [a2.length]; rfl)⟩
  · obtain ⟨x, rfl, a, xs, rfl, a1, a2⟩ := h1.one
    cases h3
    exact ⟨_, xs.length, rfl, .inl ⟨xs, Rd.sq a1, rfl⟩, g.now w (by rw [a2.length]; rfl)⟩
  · obtain ⟨x, rfl, a, a1, rfl⟩ := h1.one
    split at h3 <;> cases h3
    rename_i ds q
    obtain ⟨xs, b1, b2⟩ := w.ob _ _ _ q a1
    exact ⟨_, xs.length, rfl, .inl ⟨xs, SqL.of b1, rfl⟩, g.now w (by rw [b2.length]; rfl)⟩
  · obtain ⟨x, rfl, a, rfl, a1⟩ := h1.one
    cases h3
    rw [← hK] at a1
    exact ⟨_, _, rfl, .inl ⟨_, SqL.un a1, rfl⟩, g.now w (by rw [List.length_map]; rfl)⟩
  · cases h3
theorem tyD_ok {as : Ads} {τ : Sto} {H : Hp} {d : D} {x : V} {t : String} (hK : X.K = Γ.K) (w : Wr Γ as τ H) (h : Rep Γ.K as (Pu as H) d x) (e : tyD d τ = some t) : TyX X.K H x (.type t) := by
  cases d with
  | non => cases (show x = _ from h); cases e; exact .base .non
  | bl => cases (show x = _ from h); cases e; exact .base (.bl _)
  | int => cases (show x = _ from h); cases e; exact .base (.int _)
  | str => cases (show x = _ from h); cases e; exact .base (.str _)
  | tup ds =>
    obtain ⟨a, xs, rfl, h1, h2⟩ := h
    cases e
    rcases SqT.un h1 with (h | ⟨o, h⟩) | ⟨o, its, n, h, c, _⟩
    · exact .base (.tup h)
    · exact .fTuple h
    · exact .kTuple (by rw [hK]; exact h) c
  | lst ds =>
    obtain ⟨a, xs, rfl, h1, h2⟩ := h
    cases e
    rcases Rd.un h1 with h | ⟨o, h⟩
    · exact .base (.lst h)
    · exact .base (.frz h)
  | loc n =>
    obtain ⟨a, h1, rfl⟩ := h
    unfold tyD at e
    dsimp only at e
    split at e <;> cases e
    · rename_i ds q
      obtain ⟨xs, h2, h3⟩ := w.ob _ _ _ q h1
      exact .base (.lst h2)
    · rename_i ds q
      obtain ⟨xs, h2, h3⟩ := w.ob _ _ _ q h1
      exact .base (.dK h2)
  | scr => cases e
  | glo => cases e
  | ty => cases e
  | clo => cases e
theorem isiR (hK : X.K = Γ.K) : CallR X (.builtin "isinstance") (rLV Γ isiV) := call_rel call_isi fun xs H Q h => by
  obtain ⟨as, τ, ds, r, h1, w, h3, g⟩ := h
  unfold isiV at h3
  split at h3
  · obtain ⟨t, e1, h3⟩ := Option.bind_eq_some_iff.mp h3
    obtain ⟨b, e2, rfl⟩ := Option.map_eq_some_iff.mp h3
    obtain ⟨x, y, rfl, rx, ry⟩ := h1.two
    cases (show y = _ from ry)
    exact ⟨x, _, _, _, b, rfl, .ty _, tyD_ok hK w rx e1, kit_ty e2, g.now w rfl⟩
  · cases h3
theorem intR : CallR X (.type "int") (rLV Γ intV) := call_rel ((call_int1 (X := X)).or (call_int_str (X := X))) fun xs H Q h => by
  obtain ⟨as, τ, ds, r, h1, w, h3, g⟩ := h
  unfold intV at h3
  split at h3
  · obtain ⟨x, rfl, rx⟩ := h1.one
    cases h3
    cases (show x = _ from rx)
    exact .inl (.inl ⟨_, rfl, g.now w rfl⟩)
  · obtain ⟨x, rfl, rx⟩ := h1.one
    cases h3
    cases (show x = _ from rx)
    exact .inl (.inr ⟨_, rfl, g.now w rfl⟩)
  · obtain ⟨x, rfl, rx⟩ := h1.one
    cases (show x = _ from rx)
    split at h3
    · rename_i c
      obtain ⟨n, e, rfl⟩ := Option.map_eq_some_iff.mp h3
      exact .inr ⟨_, n, rfl, e, c, g.now w rfl⟩
    · cases h3
  · cases h3
theorem strR : CallR X (.type "str") (rLV Γ strV) := call_rel call_str_int fun xs H Q h => by
  obtain ⟨as, τ, ds, r, h1, w, h3, g⟩ := h
  unfold strV at h3
  split at h3
  · obtain ⟨x, rfl, rx⟩ := h1.one
    cases (show x = _ from rx)
    split at h3 <;> cases h3
    rename_i c
    exact ⟨_, rfl, c, g.now w rfl⟩
  · cases h3
theorem absR : CallR X (.builtin "abs") (rLV Γ absV) := call_rel call_abs fun xs H Q h => by
  obtain ⟨as, τ, ds, r, h1, w, h3, g⟩ := h
  unfold absV at h3
  split at h3 <;> cases h3
  obtain ⟨x, rfl, rx⟩ := h1.one
  cases (show x = _ from rx)
  exact ⟨_, rfl, g.now w rfl⟩
theorem maxR (hc : X.calm = true) : CallR X (.builtin "max") (rLV Γ maxV) := call_rel (call_max2 hc) fun xs H Q h => by
  obtain ⟨as, τ, ds, r, h1, w, h3, g⟩ := h
  unfold maxV at h3
  split at h3 <;> cases h3
  obtain ⟨x, y, rfl, rx, ry⟩ := h1.two
  cases (show x = _ from rx); cases (show y = _ from ry)
  exact ⟨_, _, rfl, g.now w rfl⟩
theorem minR (hc : X.calm = true) : CallR X (.builtin "min") (rLV Γ minV) := call_rel (call_min2 hc) fun xs H Q h => by
  obtain ⟨as, τ, ds, r, h1, w, h3, g⟩ := h
  unfold minV at h3
  split at h3 <;> cases h3
  obtain ⟨x, y, rfl, rx, ry⟩ := h1.two
  cases (show x = _ from rx); cases (show y = _ from ry)
  exact ⟨_, _, rfl, g.now w rfl⟩
theorem sumR (hc : X.calm = true) : CallR X (.builtin "sum") (rLV Γ sumV) := call_rel (cr_sum hc) fun xs H Q h => by
  obtain ⟨as, τ, ds, r, h1, w, h3, g⟩ := h
  unfold sumV at h3
  split at h3
  · obtain ⟨ns, e, rfl⟩ := Option.map_eq_some_iff.mp h3
    obtain ⟨x, rfl, a, xs, rfl, a1, a2⟩ := h1.one
    rw [intsO_some e] at a2
    rw [a2.ints] at a1
    exact ⟨a, ns, rfl, Rd.sq a1, g.now w rfl⟩
  · cases h3
theorem allR (hc : X.calm = true) : CallR X (.builtin "all") (rLV Γ allV) := call_rel (cr_all hc) fun xs H Q h => by
  obtain ⟨as, τ, ds, r, h1, w, h3, g⟩ := h
  unfold allV at h3
  split at h3
  · obtain ⟨ns, e, rfl⟩ := Option.map_eq_some_iff.mp h3
    obtain ⟨x, rfl, a, xs, rfl, a1, a2⟩ := h1.one
    rw [blsO_some e] at a2
    rw [a2.bls] at a1
    exact ⟨a, ns, rfl, Rd.sq a1, g.now w rfl⟩
  · cases h3
theorem anyR (hc : X.calm = true) : CallR X (.builtin "any") (rLV Γ anyV) := call_rel (cr_any hc) fun xs H Q h => by
  obtain ⟨as, τ, ds, r, h1, w, h3, g⟩ := h
  unfold anyV at h3
  split at h3
  · obtain ⟨ns, e, rfl⟩ := Option.map_eq_some_iff.mp h3
    obtain ⟨x, rfl, a, xs, rfl, a1, a2⟩ := h1.one
    rw [blsO_some e] at a2
    rw [a2.bls] at a1
    exact ⟨a, ns, rfl, Rd.sq a1, g.now w rfl⟩
  · cases h3
theorem sortI_perm (ns : List Int) : (sortI ns).Perm ns := List.mergeSort_perm _ _
theorem sortI_sorted (ns : List Int) : (sortI ns).Pairwise (· ≤ ·) := by
  have h := List.pairwise_mergeSort (le := fun a b : Int => decide (a ≤ b)) (fun a b c => by simp only [decide_eq_true_eq]; omega) (fun a b => by simp only [Bool.or_eq_true, decide_eq_true_eq]; omega) ns
  exact h.imp fun h => of_decide_eq_true h
theorem sortI_uniq {ns ms : List Int} (h : ms.Perm ns) (p : ms.Pairwise (· ≤ ·)) : ms = sortI ns := by
  refine (h.trans (sortI_perm ns).symm).eq_of_pairwise (fun a b _ _ h1 h2 => by omega) p (sortI_sorted ns)
theorem sortedR : CallR X (.builtin "sorted") (rLV Γ sortedV) := call_rel cr_sortedI fun xs H Q h => by
  obtain ⟨as, τ, ds, r, h1, w, h3, g⟩ := h
  unfold sortedV at h3
  split at h3
  · obtain ⟨ns, e, rfl⟩ := Option.map_eq_some_iff.mp h3
    obtain ⟨x, rfl, a, xs, rfl, a1, a2⟩ := h1.one
    rw [intsO_some e] at a2
    rw [a2.ints] at a1
    refine ⟨a, ns, rfl, Rd.sq a1, fun ns' p h p2 hp => ?_⟩
    rw [sortI_uniq h p2]
    exact g.newL w Reps.of_ints p hp
  · cases h3
theorem tupleR (hK : X.K = Γ.K) : CallR X (.type "tuple") (rLV Γ tupleV) := call_rel call_tuple_of fun xs H Q h => by
  obtain ⟨as, τ, ds, r, h1, w, h3, g⟩ := h
  unfold tupleV at h3
  split at h3 <;> cases h3
  · obtain ⟨x, rfl, a, xs, rfl, a1, a2⟩ := h1.one
    exact ⟨a, xs, rfl, .inl ⟨Rd.sq a1, g.newT w a2⟩⟩
  · obtain ⟨x, rfl, a, xs, rfl, a1, a2⟩ := h1.one
    exact ⟨a, xs, rfl, .inr ⟨by rw [hK]; exact SqT.un a1, g.now w ⟨a, xs, rfl, a1, a2⟩⟩⟩
theorem listR (hK : X.K = Γ.K) : CallR X (.type "list") (rLV Γ listV) := call_rel call_list_of fun xs H Q h => by
  obtain ⟨as, τ, ds, r, h1, w, h3, g⟩ := h
  unfold listV at h3
  split at h3 <;> cases h3
  · obtain ⟨x, rfl, a, xs, rfl, a1, a2⟩ := h1.one
    exact ⟨a, xs, rfl, .inl (Rd.sq a1), g.newL w a2⟩
  · obtain ⟨x, rfl, a, xs, rfl, a1, a2⟩ := h1.one
    exact ⟨a, xs, rfl, .inr (by rw [hK]; exact SqT.un a1), g.newL w a2⟩
theorem divmodR : CallR X (.builtin "divmod") (rLV Γ divmodV) := call_rel call_divmod fun xs H Q h => by
  obtain ⟨as, τ, ds, r, h1, w, h3, g⟩ := h
  unfold divmodV at h3
  split at h3
  · obtain ⟨x, y, rfl, rx, ry⟩ := h1.two
    cases (show x = _ from rx); cases (show y = _ from ry)
    split at h3 <;> cases h3
    rename_i c
    exact ⟨_, _, rfl, c, g.newT w (Reps.cons rfl (Reps.cons rfl Reps.nil))⟩
  · cases h3
end

/-! ### the calls -/
def callV (f : List D → Sto → Option D) (ms : List Arg1) (ρ : Rho) : M D := M.bind (argsE ms ρ) fun xs => rd (f xs)
section
variable {Γ : Gx} {X : Cx} {W : WX} {e : Expr} {es : List Expr} {ms : List Arg1} {x : Str} {p pos : Pos} {id T : String} {f : List D → Sto → Option D}
theorem callV_imp {σ : L2.St} {H : Hp} {Q : VK} (h : tE Γ W (callV f ms) σ H Q) : tCB (rLV Γ f) (tA Γ W (argsE ms)) σ H Q := by
  refine tG_bind (f := fun xs _ => rd (f xs)) h fun ρ as τ ds xs H1 r rx fin => ?_
  obtain ⟨z, hz, g⟩ := fin_rd fin
  exact ⟨as, τ, ds, z, rx, r.wr, hz, g⟩
theorem e_callB (hc : CallR X (.builtin id) (rLV Γ f)) (hg : Gl X x) (hm : X.mg x = none) (hv : bootBuiltins x = some (.builtin id)) (ha : PA X (e :: es) (tA Γ W (argsE ms))) (hn : x ≠ "__name__") (hdb : (x == ("__debug__" : Str)) = false)
    (he : starEach (e :: es) X.env = (false, eval e X.env) :: starEach es X.env) (hpl : (backTo pos (starEach es X.env)).any (·.1) = false) : PE X (.Call (.Name x p) (e :: es) [] pos) (tE Γ W (callV f ms)) :=
  PE.imp (pe_callB hc hg hm hv ha hn hdb he hpl) fun _ _ _ h => callV_imp h
theorem e_callTy (hc : CallR X (.type T) (rLV Γ f)) (hg : Gl X x) (hm : X.mg x = none) (hv : bootBuiltins x = some (.type T)) (ha : PA X (e :: es) (tA Γ W (argsE ms))) (hn : x ≠ "__name__") (hdb : (x == ("__debug__" : Str)) = false)
    (he : starEach (e :: es) X.env = (false, eval e X.env) :: starEach es X.env) (hpl : (backTo pos (starEach es X.env)).any (·.1) = false) : PE X (.Call (.Name x p) (e :: es) [] pos) (tE Γ W (callV f ms)) :=
  PE.imp (pe_callTy hc hg hm hv ha hn hdb he hpl) fun _ _ _ h => callV_imp h
end

/-! ### methods of built-in types -/
def splitV : D → List D → Sto → Option D
  | .str a, [.str b], _ => if (b.length == 0) = false ∧ a.length + 2 ≤ sizeLine then some (.lst ((Txt.split a b).map .str)) else none
  | _, _, _ => none
def joinV : D → List D → Sto → Option D
  | .str a, [.lst ds], _ => (strsO ds).bind fun ys => if (ys.map (·.length)).sum + ys.length * a.length ≤ 16777216 then some (.str (Txt.join a ys)) else none
  | .str a, [.tup ds], _ => (strsO ds).bind fun ys => if (ys.map (·.length)).sum + ys.length * a.length ≤ 16777216 then some (.str (Txt.join a ys)) else none
  | _, _, _ => none
def tyOk (T : String) (x : D) : Option Unit := match x with
  | .str _ => if T = "str" then some () else none
  | .lst _ => if T = "list" then some () else none
  | _ => none
def methV (T : String) (f : D → List D → Sto → Option D) (mo : Rho → M D) (ms : List Arg1) (ρ : Rho) : M D := M.bind (mo ρ) fun o => M.bind (ofO (tyOk T o)) fun _ => M.bind (argsE ms ρ) fun xs => rd (f o xs)
section
variable {Γ : Gx} {X : Cx} {W : WX} {o e : Expr} {es : List Expr} {mo : Rho → M D} {ms : List Arg1} {name : Str} {apos cpos : Pos} {id T : String} {f : D → List D → Sto → Option D}
theorem mt_rel {id : String} {r r' : V → List V → Hp → VK → Prop} (h : MtR X id r) (k : ∀ x xs H Q, r' x xs H Q → r x xs H Q) : MtR X id r' := fun pins s σ H x xs v us Q I rx rs q => h pins s σ H x xs v us Q I rx rs (k _ _ _ _ q)
theorem splitR : MtR X "str.split" (rMV Γ splitV) := mt_rel mt_split fun x xs H Q h => by
  obtain ⟨as, τ, d, ds, r, h0, h1, w, h3, g⟩ := h
  unfold splitV at h3
  split at h3
  · cases (show x = _ from h0)
    obtain ⟨y, rfl, ry⟩ := h1.one
    cases (show y = _ from ry)
    split at h3 <;> cases h3
    rename_i c
    exact ⟨_, _, rfl, rfl, c.1, c.2, g.newL w Reps.of_strs⟩
  · cases h3
theorem joinR (hK : X.K = Γ.K) : MtR X "str.join" (rMV Γ joinV) := mt_rel mt_join fun x xs H Q h => by
  obtain ⟨as, τ, d, ds, r, h0, h1, w, h3, g⟩ := h
  unfold joinV at h3
  split at h3
  · cases (show x = _ from h0)
    obtain ⟨y, rfl, a, zs, rfl, a1, a2⟩ := h1.one
    obtain ⟨ys, e1, h3⟩ := Option.bind_eq_some_iff.mp h3
    split at h3 <;> cases h3
    rename_i c
    rw [strsO_some e1] at a2
    rw [a2.strs] at a1
    exact ⟨_, a, ys, rfl, rfl, .inl (Rd.sq a1), c, g.now w rfl⟩
  · cases (show x = _ from h0)
    obtain ⟨y, rfl, a, zs, rfl, a1, a2⟩ := h1.one
    obtain ⟨ys, e1, h3⟩ := Option.bind_eq_some_iff.mp h3
    split at h3 <;> cases h3
    rename_i c
    rw [strsO_some e1] at a2
    rw [a2.strs] at a1
    exact ⟨_, a, ys, rfl, rfl, .inr (by rw [hK]; exact SqT.un a1), c, g.now w rfl⟩
  · cases h3
theorem e_meth (pa : PlainAttrs T) (slot : Slot T name id) (hty : typeOf (.builtin id) = pure (.type "method_descriptor")) (hm : MtR X id (rMV Γ f)) (ho : PE X o (tE Γ W mo)) (ha : PA X (e :: es) (tA Γ W (argsE ms)))
    (hbase : attributeBase o name X.env (eval o X.env) = eval o X.env)
    (hfew : ((backTo cpos (starEach (e :: es) X.env)).all (fun x => !x.1) && (backToKw cpos (keywordEach [] X.env)).all (fun x => x.1.isSome)
      && decide ((e :: es).length + ([] : List Keyword).length + (if ([] : List Keyword).isEmpty then 0 else 1) < 30)) = true)
    (hline : (apos.endLine == cpos.line) = true) (hs : starEach (e :: es) X.env = (false, eval e X.env) :: starEach es X.env) (hplain : (backTo cpos (starEach es X.env)).any (·.1) = false) :
    PE X (.Call (.Attribute o name apos) (e :: es) [] cpos) (tE Γ W (methV T f mo ms)) := by
  refine PE.imp (pe_bm pa slot hty hm ho ha hbase hfew hline hs hplain) fun σ H Q h => ?_
  obtain ⟨ρ, as, τ, r, h⟩ := h
  refine tG_of r ((Fin.bind (f := fun o => M.bind (ofO (tyOk T o)) fun _ => M.bind (argsE ms ρ) fun xs => rd (f o xs)) h).imp fun vx H1 ⟨as1, τ1, x, x1, w1, rx, f1⟩ => ?_)
  cases e1 : tyOk T x with
  | none => rw [e1] at f1; exact f1.elim
  | some u =>
    rw [e1] at f1
    have hty : tyV X.K T vx H1 := by
      unfold tyOk at e1
      split at e1
      · split at e1 <;> cases e1
        rename_i c
        cases (show vx = _ from rx)
        exact c
      · split at e1 <;> cases e1
        rename_i c
        obtain ⟨a, xs, rfl, a1, a2⟩ := rx
        exact .inl ⟨c, xs, Rd.sq a1⟩
      · cases e1
    refine ⟨hty, ?_⟩
    refine tG_of (r.ext x1 w1) ((Fin.bind (f := fun xs => rd (f x xs)) f1).imp fun vs H2 ⟨as2, τ2, ds, x2, w2, rz, f2⟩ => ?_)
    obtain ⟨z, hz, g⟩ := fin_rd f2
    exact ⟨as2, τ2, x, ds, z, Rep.ext rx x2, rz, w2, hz, g⟩
end

/-! ### the defs of the text -/
/-- what a def's mirror promises -/
def spM (Γ : Gx) (n : Nat) (m : List D → M D) : Sp := fun vs H Q E => ∃ ds as τ, vs.length = n ∧ Reps Γ.K as (Pu as H) ds vs ∧ Wr Γ as τ H ∧ Fin Γ (RD Γ) (fun cls d _ H' => E cls d H') [] as H (m ds τ) Q
/-- the def of the name x keeps its mirror -/
structure FnAt (Γ : Gx) (k : Nat) (x : Str) (n : Nat) (m : List D → M D) : Prop where
  ex : ∃ (f : Addr) (fd : FuncData) (ps : List Str), FnOk Γ.prog Γ.w Γ.K Γ.mg Γ.base (L2.CX Γ.prog Γ.w) k f fd ps (spM Γ n m) ∧ Γ.mg x = some (.ref f) ∧ PySem.W.keepIn Γ.K (.ref f) = true ∧ Binds Γ.K fd ps [] ∧ ps.length = n
theorem FnAt.mono {Γ : Gx} {j k : Nat} {x : Str} {n : Nat} {m : List D → M D} (F : FnAt Γ j x n m) (h : j ≤ k) : FnAt Γ k x n m := by
  obtain ⟨f, fd, ps, h1, h2⟩ := F.ex
  exact ⟨f, fd, ps, h1.mono h, h2⟩
theorem FnAt.eq {Γ : Gx} {k : Nat} {x : Str} {n : Nat} {m m' : List D → M D} (F : FnAt Γ k x n m) (h : ∀ ds, ds.length = n → m ds = m' ds) : FnAt Γ k x n m' := by
  obtain ⟨f, fd, ps, h1, h2⟩ := F.ex
  refine ⟨f, fd, ps, h1.imp fun vs H Q E q => ?_, h2⟩
  obtain ⟨ds, as, τ, a, b, c, d⟩ := q
  refine ⟨ds, as, τ, a, b, c, ?_⟩
  rw [h ds (by rw [← b.length]; exact a)]
  exact d
def callF (m : List D → M D) (ms : List Arg1) (ρ : Rho) : M D := M.bind (argsE ms ρ) m
theorem Fin.wish {α Y : Type} {Γ : Gx} {R : Ads → Hp → α → Y → Prop} {W W' : WX} {σ σ' : L2.St} {as : Ads} {H : Hp} {r : Res α} {Q : Y → Hp → Prop} (h : Fin Γ R W σ as H r Q) (k : ∀ cls d H, W cls d σ H → W' cls d σ' H) : Fin Γ R W' σ' as H r Q := by
  cases r with
  | ok a τ' => exact h
  | exc c τ' => exact fun cls od as2 H2 x w q => k _ _ _ (h cls od as2 H2 x w q)
  | bad => exact h
section
variable {Γ : Gx} {X : Cx} {W : WX} {e : Expr} {es : List Expr} {ms : List Arg1} {x : Str} {p pos : Pos} {k n : Nat} {m : List D → M D}
theorem e_call (C : CxR Γ X W) (F : FnAt Γ k x n m) (hr : Room k X.A) (hg : Gl X x) (ha : PA X (e :: es) (tA Γ W (argsE ms))) (hl : ∀ ρ τ ds τ', argsE ms ρ τ = .ok ds τ' → ds.length = n) (hdb : (x == ("__debug__" : Str)) = false)
    (he : starEach (e :: es) X.env = (false, eval e X.env) :: starEach es X.env) (hpl : (backTo pos (starEach es X.env)).any (·.1) = false) : PE X (.Call (.Name x p) (e :: es) [] pos) (tE Γ W (callF m ms)) := by
  obtain ⟨f, fd, ps, h1, h2, h3, h4, h5⟩ := F.ex
  have h1' : FnOk X.prog X.w X.K X.mg X.base (L2.CX X.prog X.w) k f fd ps (spM Γ n m) := by rw [C.prog, C.w, C.K, C.mg, C.base]; exact h1
  refine PE.imp (pe_callS (E := fun σ => WE W σ) h1' hr hg (by rw [C.mg]; exact h2) (by rw [C.K]; exact h3) (by rw [C.K]; exact h4) (fun σ => passAt C.tk σ) ha hdb he hpl) fun σ H Q h => ?_
  obtain ⟨ρ, as, τ, r, h⟩ := h
  refine tG_of r ?_
  have h : Fin Γ (RD Γ) W σ as H (M.bind (argsE ms ρ) m τ) Q := h
  unfold M.bind at h
  cases q : argsE ms ρ τ with
  | bad => rw [q] at h; exact h
  | exc c τ' => rw [q] at h; exact h
  | ok ds τ' =>
    rw [q] at h
    exact fun vs as1 H1 x1 w1 rx => ⟨ds, as1, τ', by rw [(show Reps _ _ _ _ _ from rx).length]; exact hl _ _ _ _ q, rx, w1, (Fin.ext h x1).wish fun _ _ _ z => z⟩
end
end Rx
end
section
set_option maxRecDepth 100000
set_option maxHeartbeats 4000000
/-! RxE: statements, loops, targets, defs. -/
namespace Rx
open PySem PySem.Spec PyProof.Rows L2

abbrev KR := Rho → M D
/-- a statement's mirror: what follows, break, continue -/
abbrev SK := KR → KR → KR → KR
/-- a target's mirror -/
abbrev GK := D → KR → KR
def dropS (m : Rho → M D) : SK := fun nx _ _ ρ => M.bind (m ρ) fun _ => nx ρ
def retS (m : Rho → M D) : SK := fun _ _ _ ρ => m ρ
def retN : SK := fun _ _ _ _ => M.pure .non
def passS : SK := fun nx _ _ ρ => nx ρ
def brkS : SK := fun _ bk _ ρ => bk ρ
def cntS : SK := fun _ _ ct ρ => ct ρ
def seqS (a b : SK) : SK := fun nx bk ct ρ => a (fun ρ' => b nx bk ct ρ') bk ct ρ
def ifS (c : Rho → M Bool) (a b : SK) : SK := fun nx bk ct ρ => M.bind (c ρ) fun k => cond k (a nx bk ct ρ) (b nx bk ct ρ)
def badS : SK := fun _ _ _ _ => M.bad
def nameG (i : Nat) : GK := fun d nx ρ => nx (ρ.set i (some d))
def asgS (m : Rho → M D) (g : GK) : SK := fun nx _ _ ρ => M.bind (m ρ) fun d => g d nx ρ
def forK (g : GK) (body : SK) (nx : KR) : List D → KR
  | [], ρ => nx ρ
  | d :: ds, ρ => g d (fun ρ1 => body (forK g body nx ds) nx (forK g body nx ds) ρ1) ρ
def forS (it : Rho → M (List D)) (g : GK) (body : SK) : SK := fun nx _ _ ρ => M.bind (it ρ) fun ds => forK g body nx ds ρ
def whileK (c : Rho → M Bool) (body : SK) (nx : KR) : Nat → KR
  | 0, _ => M.bad
  | n + 1, ρ => M.bind (c ρ) fun k => cond k (body (whileK c body nx n) nx (whileK c body nx n) ρ) (nx ρ)
def whileS (n : Nat) (c : Rho → M Bool) (body : SK) : SK := fun nx _ _ ρ => whileK c body nx n ρ
def gsK : List GK → List D → KR → KR
  | [], [], nx, ρ => nx ρ
  | g :: gs, d :: ds, nx, ρ => g d (fun ρ1 => gsK gs ds nx ρ1) ρ
  | _, _, _, _ => M.bad
def tupG (gs : List GK) : GK := fun d nx ρ => match d with
  | .tup ds => cond (ds.length == gs.length) (gsK gs ds nx ρ) M.bad
  | _ => M.bad

/-- the slots other than sl stay -/
def Off (sl : List Nat) (σ σ' : L2.St) : Prop := σ'.length = σ.length ∧ ∀ i, i ∉ sl → σ'[i]? = σ[i]?
theorem Off.refl {sl : List Nat} {σ : L2.St} : Off sl σ σ := ⟨rfl, fun _ _ => rfl⟩
theorem Off.set {sl : List Nat} {σ : L2.St} {i : Nat} {v : Option V} (h : i ∈ sl) : Off sl σ (σ.set i v) := ⟨by simp, fun j hj => List.getElem?_set_ne (fun (e : i = j) => hj (by rw [← e]; exact h))⟩
theorem Off.trans {sl : List Nat} {σ σ' σ2 : L2.St} (a : Off sl σ σ') (b : Off sl σ' σ2) : Off sl σ σ2 := ⟨b.1.trans a.1, fun i hi => (b.2 i hi).trans (a.2 i hi)⟩
theorem Off.sub {sl sl' : List Nat} {σ σ' : L2.St} (a : Off sl σ σ') (h : ∀ i ∈ sl, i ∈ sl') : Off sl' σ σ' := ⟨a.1, fun i hi => a.2 i fun z => hi (h i z)⟩
section
variable (Γ : Gx) (E : XK)
/-- the wish of a def's body -/
abbrev WE0 : WX := fun cls d _ H => E cls d H
/-- what is wanted behind, seen from the mirror: the whole ends in r -/
structure EndsR (D : Ends) (nx bk ct : KR) (r : Res Rx.D) (as : Ads) (H : Hp) : Prop where
  nx : ∀ ρ' as' τ' σ' H', Ext as H as' H' → Rel Γ ρ' as' τ' σ' H' → nx ρ' τ' = r → D.nx σ' H'
  bk : ∀ ρ' as' τ' σ' H', Ext as H as' H' → Rel Γ ρ' as' τ' σ' H' → bk ρ' τ' = r → D.bk σ' H'
  ct : ∀ ρ' as' τ' σ' H', Ext as H as' H' → Rel Γ ρ' as' τ' σ' H' → ct ρ' τ' = r → D.ct σ' H'
  rt : Fin Γ (RD Γ) (WE0 E) [] as H r D.rt
def tS (st : SK) : TS := fun D σ H => ∃ ρ as τ nx bk ct, Rel Γ ρ as τ σ H ∧ EndsR Γ E D nx bk ct (st nx bk ct ρ τ) as H
def tGr (sl : List Nat) (g : GK) : TG := fun v σ H Q => ∃ ρ as τ d, ∃ (nx : KR) (r : Res Rx.D), Rel Γ ρ as τ σ H ∧ RD Γ as H d v ∧ r ≠ .bad ∧ g d nx ρ τ = r ∧ ∀ ρ' as' τ' σ' H', Ext as H as' H' → Rel Γ ρ' as' τ' σ' H' → Off sl σ σ' → nx ρ' τ' = r → Q σ' H'
def tGrs (sl : List Nat) (gs : List GK) : TGs := fun vs σ H Q => ∃ ρ as τ ds, ∃ (nx : KR) (r : Res Rx.D), Rel Γ ρ as τ σ H ∧ RDs Γ as H ds vs ∧ r ≠ .bad ∧ gsK gs ds nx ρ τ = r ∧ ∀ ρ' as' τ' σ' H', Ext as H as' H' → Rel Γ ρ' as' τ' σ' H' → Off sl σ σ' → nx ρ' τ' = r → Q σ' H'
end
section
variable {Γ : Gx} {E : XK} {X : Cx} {D : Ends} {nx bk ct : KR} {r : Res Rx.D} {as as' : Ads} {H H' : Hp}
theorem EndsR.ext (h : EndsR Γ E D nx bk ct r as H) (x : Ext as H as' H') : EndsR Γ E D nx bk ct r as' H' :=
  ⟨fun ρ' as2 τ' σ' H2 y => h.nx ρ' as2 τ' σ' H2 (x.trans y), fun ρ' as2 τ' σ' H2 y => h.bk ρ' as2 τ' σ' H2 (x.trans y), fun ρ' as2 τ' σ' H2 y => h.ct ρ' as2 τ' σ' H2 (x.trans y), h.rt.ext x⟩
theorem EndsR.nb (h : EndsR Γ E D nx bk ct r as H) : r ≠ .bad := fun e => by
  have q := h.rt
  rw [e] at q
  exact q
/-- an expression, then the rest -/
theorem EndsR.bind {α Y : Type} {R : Ads → Hp → α → Y → Prop} {m : M α} {f : α → M Rx.D} {τ : Sto} {σ : L2.St} (h : EndsR Γ E D nx bk ct (M.bind m f τ) as H) :
    Fin Γ R (WE0 E) σ as H (m τ) fun y H1 => ∃ as1 τ1 a, Ext as H as1 H1 ∧ Wr Γ as1 τ1 H1 ∧ R as1 H1 a y ∧ EndsR Γ E D nx bk ct (f a τ1) as1 H1 ∧ f a τ1 = M.bind m f τ := by
  unfold M.bind at h
  cases e : m τ with
  | ok a τ' =>
    rw [e] at h
    exact fun y as1 H1 x w q => ⟨as1, τ', a, x, w, q, h.ext x, by show _ = (match m τ with | .ok a τ' => f a τ' | .exc e τ' => .exc e τ' | .bad => .bad); rw [e]⟩
  | exc c τ' =>
    rw [e] at h
    exact Fin.wish (R := R) (α := α) (r := .exc c τ') (W := WE0 E) (σ := []) h.rt fun _ _ _ z => z
  | bad =>
    rw [e] at h
    exact h.rt
variable {e : Expr} {m : Rho → M Rx.D} {pos : Pos}
theorem s_expr (he : PE X e (tE Γ (WE0 E) m)) (hs : swapsWith e none pos.line X.env = pure false) : PS X (.Expr e pos) (tS Γ E (dropS m)) := by
  refine PS.imp (ps_expr he hs) fun D σ H h => ?_
  obtain ⟨ρ, as, τ, nx, bk, ct, r, h⟩ := h
  refine tG_of r ((EndsR.bind (f := fun _ => nx ρ) h).imp fun v H1 ⟨as1, τ1, a, x, w, rv, q, _⟩ => ?_)
  exact q.nx ρ as1 τ1 σ H1 Ext.refl (r.ext x w) rfl
theorem s_ret (he : PE X e (tE Γ (WE0 E) m)) : PS X (.Return (some e) pos) (tS Γ E (retS m)) := by
  refine PS.imp (ps_ret he) fun D σ H h => ?_
  obtain ⟨ρ, as, τ, nx, bk, ct, r, h⟩ := h
  exact tG_of r (h.rt.wish fun _ _ _ z => z)
theorem s_retN : PS X (.Return none pos) (tS Γ E retN) := by
  refine PS.imp ps_retN fun D σ H h => ?_
  obtain ⟨ρ, as, τ, nx, bk, ct, r, h⟩ := h
  exact Fin.pure (τ := τ) (y := V.non) h.rt r.wr (show RD Γ _ _ _ _ from rfl)
theorem s_pass : PS X (.Pass pos) (tS Γ E passS) := PS.imp ps_pass fun D σ H h => by
  obtain ⟨ρ, as, τ, nx, bk, ct, r, h⟩ := h
  exact h.nx ρ as τ σ H Ext.refl r rfl
theorem s_break : PS X (.Break pos) (tS Γ E brkS) := PS.imp ps_break fun D σ H h => by
  obtain ⟨ρ, as, τ, nx, bk, ct, r, h⟩ := h
  exact h.bk ρ as τ σ H Ext.refl r rfl
theorem s_continue : PS X (.Continue pos) (tS Γ E cntS) := PS.imp ps_continue fun D σ H h => by
  obtain ⟨ρ, as, τ, nx, bk, ct, r, h⟩ := h
  exact h.ct ρ as τ σ H Ext.refl r rfl
theorem s_never {st : Stmt} : PS X st (tS Γ E badS) := ⟨fun pins s σ H D I h => by
  obtain ⟨ρ, as, τ, nx, bk, ct, r, h⟩ := h
  exact h.rt.elim⟩
theorem ss_nil : PSs X [] (tS Γ E passS) := PSs.imp pss_nil fun D σ H h => by
  obtain ⟨ρ, as, τ, nx, bk, ct, r, h⟩ := h
  exact h.nx ρ as τ σ H Ext.refl r rfl
theorem ss_one {st : Stmt} {a : SK} (h : PS X st (tS Γ E a)) : PSs X [st] (tS Γ E a) := pss_one h
theorem ss_cons {st : Stmt} {rest : List Stmt} {a b : SK} (h1 : PS X st (tS Γ E a)) (h2 : PSs X rest (tS Γ E b)) : PSs X (st :: rest) (tS Γ E (seqS a b)) := by
  refine PSs.imp (pss_cons h1 h2) fun D σ H h => ?_
  obtain ⟨ρ, as, τ, nx, bk, ct, r, h⟩ := h
  refine ⟨ρ, as, τ, fun ρ' => b nx bk ct ρ', bk, ct, r, ⟨fun ρ' as' τ' σ' H' x r' e => ?_, h.bk, h.ct, h.rt⟩⟩
  have h2 := h.ext x
  rw [show seqS a b nx bk ct ρ τ = b nx bk ct ρ' τ' from e.symm] at h2
  exact ⟨ρ', as', τ', nx, bk, ct, r', h2⟩
theorem s_if {c : Expr} {p q : List Stmt} {mc : Rho → M Bool} {a b : SK} (hc : PT X c (tT Γ (WE0 E) mc)) (ha : PSs X p (tS Γ E a)) (hb : PSs X q (tS Γ E b)) : PS X (.If c p q pos) (tS Γ E (ifS mc a b)) := by
  refine PS.imp (ps_if hc ha hb) fun D σ H h => ?_
  obtain ⟨ρ, as, τ, nx, bk, ct, r, h⟩ := h
  refine tG_of r ((EndsR.bind (f := fun k => cond k (a nx bk ct ρ) (b nx bk ct ρ)) h).imp fun k' H1 ⟨as1, τ1, k, x, w, e, q, _⟩ => ?_)
  cases (show k = k' from e)
  cases k' with
  | true => rw [if_pos rfl]; exact ⟨ρ, as1, τ1, nx, bk, ct, r.ext x w, q⟩
  | false => rw [if_neg Bool.false_ne_true]; exact ⟨ρ, as1, τ1, nx, bk, ct, r.ext x w, q⟩
/-! ### targets -/
theorem g_name {i : Nat} {x : Str} (hN : X.N.Nodup) (hi : X.N[i]? = some x) (hx : Loc X.env.scope x) (hf : X.fn x = true ∨ X.env.scope.names.lookup x = some .local) : PG X (.Name x pos) (tGr Γ [i] (nameG i)) := by
  refine ⟨fun pins s σ H v u Q I rv h => (pg_name hN hi hx hf).run pins s σ H v u Q I rv ?_⟩
  obtain ⟨ρ, as, τ, d, nx, r, rel, rd, nb, e, k⟩ := h
  exact k _ as τ _ H Ext.refl ⟨rel.env.set i rd, rel.wr⟩ (Off.set (List.mem_singleton.mpr rfl)) e
theorem PG.imp {e : Expr} {t t' : TG} (h : PG X e t) (k : ∀ v σ H Q, t' v σ H Q → t v σ H Q) : PG X e t' := ⟨fun pins s σ H v u Q I r q => h.run pins s σ H v u Q I r (k _ _ _ _ q)⟩
theorem PGs.imp {e : List Expr} {t t' : TGs} (h : PGs X e t) (k : ∀ v σ H Q, t' v σ H Q → t v σ H Q) : PGs X e t' := ⟨fun pins s σ H v u Q I r q => h.run pins s σ H v u Q I r (k _ _ _ _ q)⟩
theorem gs_nil {sl : List Nat} : PGs X [] (tGrs Γ sl []) := PGs.imp pgs_nil fun vs σ H Q h => by
  obtain ⟨ρ, as, τ, ds, nx, r, rel, rd, nb, e, k⟩ := h
  cases ds with
  | nil => exact ⟨rd, k ρ as τ σ H Ext.refl rel Off.refl e⟩
  | cons d ds => exact absurd e.symm nb
theorem gs_cons {t : Expr} {ts : List Expr} {g : GK} {gs : List GK} {sl : List Nat} (h1 : PG X t (tGr Γ sl g)) (h2 : PGs X ts (tGrs Γ sl gs)) (hs : (assignEach (t :: ts) X.env).map (·.2) = assign t X.env :: (assignEach ts X.env).map (·.2)) : PGs X (t :: ts) (tGrs Γ sl (g :: gs)) := by
  refine PGs.imp (pgs_cons h1 h2 hs) fun vs σ H Q h => ?_
  obtain ⟨ρ, as, τ, ds, nx, r, rel, rd, nb, e, k⟩ := h
  cases ds with
  | nil => exact absurd e.symm nb
  | cons d ds =>
    obtain ⟨v, vr, rfl, r1, r2⟩ := rd
    refine ⟨v, vr, rfl, ρ, as, τ, d, fun ρ1 => gsK gs ds nx ρ1, r, rel, r1, nb, e, fun ρ' as' τ' σ' H' x rel' of e' => ?_⟩
    exact ⟨ρ', as', τ', ds, nx, r, rel', Reps.ext r2 x, nb, e', fun ρ2 as2 τ2 σ2 H2 x2 rel2 of2 => k ρ2 as2 τ2 σ2 H2 (x.trans x2) rel2 (of.trans of2)⟩
theorem g_tup {W : WX} (C : CxR Γ X W) {es : List Expr} {k : Nat} {gs : List GK} {sl : List Nat} (h : PGs X es (tGrs Γ sl gs)) (hn : (assignEach es X.env).length = gs.length) (hst : (assignEach es X.env).findIdx? (·.1) = none) : PG X (.Tuple es k pos) (tGr Γ sl (tupG gs)) := by
  refine PG.imp (pg_tup C.calm h hn hst) fun v σ H Q q => ?_
  obtain ⟨ρ, as, τ, d, nx, r, rel, rd, nb, e, k⟩ := q
  cases d <;> first | exact absurd e.symm nb | skip
  rename_i ds
  obtain ⟨a, xs, rfl, a1, a2⟩ := rd
  have e : (cond (ds.length == gs.length) (gsK gs ds nx ρ) M.bad : M Rx.D) τ = r := e
  cases hl : ds.length == gs.length with
  | false => rw [hl] at e; exact absurd e.symm nb
  | true =>
    rw [hl] at e
    exact ⟨a, xs, rfl, by rw [C.K]; exact SqT.un a1, by rw [a2.length]; exact beq_iff_eq.mp hl, ρ, as, τ, ds, nx, r, rel, a2, nb, e, k⟩
theorem s_asg {tg : Expr} {g : GK} {sl : List Nat} (he : PE X e (tE Γ (WE0 E) m)) (hg : PG X tg (tGr Γ sl g)) (hs : swapsWithSole [tg] e pos.line X.env = pure false) (hw : swappedStores [tg] e X.env = pure none)
    (h1 : (assignEach [tg] X.env).map (·.2) = [assign tg X.env]) : PS X (.Assign [tg] e pos) (tS Γ E (asgS m g)) := by
  refine PS.imp (ps_asg he hg hs hw h1) fun D σ H h => ?_
  obtain ⟨ρ, as, τ, nx, bk, ct, r, h⟩ := h
  refine tG_of r ((EndsR.bind (f := fun d => g d nx ρ) h).imp fun v H1 ⟨as1, τ1, d, x, w, rv, q, _⟩ => ?_)
  exact ⟨ρ, as1, τ1, d, nx, _, r.ext x w, rv, q.nb, rfl, fun ρ' as' τ' σ' H' x' r' _ e' => q.nx ρ' as' τ' σ' H' x' r' e'⟩
/-! ### loops -/
/-- from one heap to a later one: data stay -/
structure ExtW (as : Ads) (H : Hp) (as' : Ads) (H' : Hp) : Prop where
  pre : as.as <+: as'.as
  same : Same (Pu as H) (Pu as' H')
theorem Ext.w {as as' : Ads} {H H' : Hp} (x : Ext as H as' H') : ExtW as H as' H' := ⟨x.pre, x.same⟩
theorem ExtW.trans {as as' as2 : Ads} {H H' H2 : Hp} (a : ExtW as H as' H') (b : ExtW as' H' as2 H2) : ExtW as H as2 H2 := ⟨a.pre.trans b.pre, a.same.trans b.same⟩
/-- the iterator J yields just the data ds -/
def Yields (Γ : Gx) (as : Ads) (H : Hp) (ds : List Rx.D) (J : It) : Prop := ∀ as1 τ1 H1, ExtW as H as1 H1 → Wr Γ as1 τ1 H1 → ∀ i, (∀ d, ds[i]? = some d → J.go i H1 ∧ ∀ x H2, J.yld i H1 x H2 → Ext as1 H1 as1 H2 ∧ Wr Γ as1 τ1 H2 ∧ RD Γ as1 H2 d x) ∧ (ds.length ≤ i → J.stop i H1)
abbrev tI (Γ : Gx) (W : WX) (m : Rho → M (List Rx.D)) : TI := tG Γ W (Yields Γ) m
theorem Yields.ext {ds : List Rx.D} {J : It} (h : Yields Γ as H ds J) (x : Ext as H as' H') : Yields Γ as' H' ds J := fun as1 τ1 H1 y => h as1 τ1 H1 (x.w.trans y)
theorem s_for (C : CxR Γ X (WE0 E)) (hp : PassesOwn (model X.prog X.w) X.A X.env X.xe) {tg iter : Expr} {body : List Stmt} {mi : Rho → M (List Rx.D)} {g : GK} {b : SK} {sl : List Nat} (hi : PI X tg iter (tI Γ (WE0 E) mi)) (hg : PG X tg (tGr Γ sl g)) (hb : PSs X body (tS Γ E b))
    (hs : ∀ x, foldedSetIterable iter X.env x = pure x) : PS X (.For tg iter body [] pos) (tS Γ E (forS mi g b)) := by
  refine PS.imp (ps_for hp C.calm hi hg hb hs) fun D σ H h => ?_
  obtain ⟨ρ, as, τ, nx, bk, ct, r, h⟩ := h
  refine tG_of r ((EndsR.bind (f := fun ds => forK g b nx ds ρ) h).imp fun J H1 ⟨as1, τ1, ds, x, w, ys, q, _⟩ => ?_)
  -- the invariant: the rest of the loop gives the whole's end
  refine ⟨fun i n σ' H' => n = ds.length - i ∧ ∃ ρ' as' τ', Ext as1 H1 as' H' ∧ Rel Γ ρ' as' τ' σ' H' ∧ forK g b nx (ds.drop i) ρ' τ' = forK g b nx ds ρ τ1, ⟨ds.length, rfl, ρ, as1, τ1, Ext.refl, r.ext x w, by rw [List.drop_zero]⟩, ?_⟩
  rintro i n σ' H' ⟨hn, ρ', as', τ', x', r', e'⟩
  obtain ⟨y1, y2⟩ := ys as' τ' H' x'.w r'.wr i
  cases hd : ds[i]? with
  | none =>
    have hi := List.getElem?_eq_none_iff.mp hd
    refine .inl ⟨y2 hi, q.nx ρ' as' τ' σ' H' x' r' ?_⟩
    rw [List.drop_of_length_le hi] at e'
    exact e'
  | some d =>
    obtain ⟨hi, hd'⟩ := List.getElem?_eq_some_iff.mp hd
    obtain ⟨go, yl⟩ := y1 d hd
    have ed : ds.drop i = d :: ds.drop (i + 1) := by rw [← hd']; exact List.drop_eq_getElem_cons hi
    rw [ed] at e'
    refine .inr ⟨go, fun σ2 H2 => ∃ ρ2 as2 τ2, Ext as1 H1 as2 H2 ∧ Rel Γ ρ2 as2 τ2 σ2 H2 ∧ forK g b nx (ds.drop (i + 1)) ρ2 τ2 = forK g b nx ds ρ τ1, fun σ2 H2 ⟨ρ2, as2, τ2, x2, r2, e2⟩ => ⟨ds.length - (i + 1), by omega, rfl, ρ2, as2, τ2, x2, r2, e2⟩, fun v H2 hy => ?_⟩
    obtain ⟨x2, w2, rv⟩ := yl v H2 hy
    refine ⟨ρ', as', τ', d, fun ρ1 => b (forK g b nx (ds.drop (i + 1))) nx (forK g b nx (ds.drop (i + 1))) ρ1, _, r'.ext x2 w2, rv, q.nb, e', fun ρ3 as3 τ3 σ3 H3 x3 r3 _ e3 => ?_⟩
    have xx : Ext as1 H1 as3 H3 := (x'.trans x2).trans x3
    refine ⟨ρ3, as3, τ3, forK g b nx (ds.drop (i + 1)), nx, forK g b nx (ds.drop (i + 1)), r3, ?_⟩
    have e3' : b (forK g b nx (ds.drop (i + 1))) nx (forK g b nx (ds.drop (i + 1))) ρ3 τ3 = forK g b nx ds ρ τ1 := e3
    rw [e3']
    have goOn : ∀ ρ' as' τ' σ' H', Ext as3 H3 as' H' → Rel Γ ρ' as' τ' σ' H' → forK g b nx (ds.drop (i + 1)) ρ' τ' = forK g b nx ds ρ τ1 → ∃ ρ2 as2 τ2, Ext as1 H1 as2 H' ∧ Rel Γ ρ2 as2 τ2 σ' H' ∧ forK g b nx (ds.drop (i + 1)) ρ2 τ2 = forK g b nx ds ρ τ1 :=
      fun ρ' as' τ' σ' H' x4 r4 e4 => ⟨ρ', as', τ', xx.trans x4, r4, e4⟩
    exact ⟨goOn, fun ρ' as' τ' σ' H' x4 r4 e4 => q.nx ρ' as' τ' σ' H' (xx.trans x4) r4 e4, goOn, q.rt.ext xx⟩
theorem s_while (hp : PassesOwn (model X.prog X.w) X.A X.env X.xe) {c : Expr} {body : List Stmt} {mc : Rho → M Bool} {b : SK} (n : Nat) (hc : PT X c (tT Γ (WE0 E) mc)) (hb : PSs X body (tS Γ E b)) : PS X (.While c body [] pos) (tS Γ E (whileS n mc b)) := by
  refine PS.imp (ps_while hp hc hb) fun D σ H h => ?_
  obtain ⟨ρ, as, τ, nx, bk, ct, r, h⟩ := h
  have h : EndsR Γ E D nx bk ct (whileK mc b nx n ρ τ) as H := h
  refine ⟨fun k σ' H' => ∃ ρ' as' τ', Ext as H as' H' ∧ Rel Γ ρ' as' τ' σ' H' ∧ whileK mc b nx k ρ' τ' = whileK mc b nx n ρ τ, ⟨n, ρ, as, τ, Ext.refl, r, rfl⟩, ?_⟩
  rintro k σ' H' ⟨ρ', as', τ', x', r', e'⟩
  have h' := h.ext x'
  cases k with
  | zero => exact absurd e'.symm h'.nb
  | succ k =>
    rw [← e'] at h'
    refine tG_of r' ((EndsR.bind (f := fun t => cond t (b (whileK mc b nx k) nx (whileK mc b nx k) ρ') (nx ρ')) h').imp fun t' H1 ⟨as1, τ1, t, x1, w1, et, q, eq⟩ => ?_)
    cases (show t = t' from et)
    have eq' := eq.trans e'
    have xx := x'.trans x1
    have hh := h.ext xx
    cases t' with
    | true =>
      rw [if_pos rfl]
      refine ⟨fun σ2 H2 => ∃ ρ2 as2 τ2, Ext as H as2 H2 ∧ Rel Γ ρ2 as2 τ2 σ2 H2 ∧ whileK mc b nx k ρ2 τ2 = whileK mc b nx n ρ τ, fun σ2 H2 h2 => ⟨k, Nat.lt_succ_self _, h2⟩, ?_⟩
      refine ⟨ρ', as1, τ1, whileK mc b nx k, nx, whileK mc b nx k, r'.ext x1 w1, ?_⟩
      have e1 : b (whileK mc b nx k) nx (whileK mc b nx k) ρ' τ1 = whileK mc b nx n ρ τ := eq'
      rw [e1]
      exact ⟨fun ρ2 as2 τ2 σ2 H2 x2 r2 e2 => ⟨ρ2, as2, τ2, xx.trans x2, r2, e2⟩, fun ρ2 as2 τ2 σ2 H2 x2 r2 e2 => hh.nx ρ2 as2 τ2 σ2 H2 x2 r2 e2, fun ρ2 as2 τ2 σ2 H2 x2 r2 e2 => ⟨ρ2, as2, τ2, xx.trans x2, r2, e2⟩, hh.rt⟩
    | false =>
      rw [if_neg Bool.false_ne_true]
      exact hh.nx ρ' as1 τ1 σ' H1 Ext.refl (r'.ext x1 w1) eq'
end

/-! ### defs -/
def startR (N : List Str) (ds : List Rx.D) : Rho := ds.map some ++ List.replicate (N.length - ds.length) none
/-- a def's mirror, by its body's -/
def runS (N : List Str) (st : SK) (ds : List Rx.D) : M Rx.D := st (fun _ => M.pure .non) (fun _ => M.bad) (fun _ => M.bad) (startR N ds)
theorem env_start {K : PySem.W.Frag} {as : Ads} {G : Hp} {N : List Str} {ds : List Rx.D} {vs : List V} (h : Reps K as G ds vs) : EnvR K as G (startR N ds) (L2.start N vs) := by
  have hl := h.length
  refine ⟨by unfold startR L2.start; simp [hl], fun i d e => ?_⟩
  unfold startR at e
  unfold L2.start
  by_cases hi : i < ds.length
  · rw [List.getElem?_append_left (by simpa using hi)] at e
    rw [List.getElem?_append_left (by simp; omega)]
    rw [List.getElem?_map] at e ⊢
    obtain ⟨d', h1, h2⟩ := Option.map_eq_some_iff.mp e
    cases h2
    obtain ⟨x, h3, h4⟩ := h.get h1
    exact ⟨x, by rw [h3]; rfl, h4⟩
  · rw [List.getElem?_append_right (by simpa using hi), List.getElem?_replicate] at e
    split at e <;> cases e
/-- the context of a def's body, in the layer's words -/
structure InDef (Γ : Gx) (E : XK) (N : List Str) (sc : Scope) (k : Nat) (X : Cx) : Prop where
  cx : CxR Γ X (WE0 E)
  N : X.N = N
  sc : X.env.scope = sc
  fn : X.fn = fun _ => true
  room : Room k X.A
  own : PassesOwn (model X.prog X.w) X.A X.env X.xe
theorem fn_mirror {P : Program} {w : World} {K : PySem.W.Frag} {mg : Str → Option Value} {base : Heap} {T : List NdefX.NTab} {x qual : Str} {st : Stmt} {f : Addr} {fd : FuncData} {N ps : List Str} {k : Nat} {sk : SK} (F : Fun K x qual st f fd) (S : FnScope N ps (defScope st))
    (hb : ∀ X E, InDef ⟨P, w, base, K, mg, T⟩ E N (defScope st) k X → PSs X (defBody st) (tS ⟨P, w, base, K, mg, T⟩ E sk)) : FnOk P w K mg base (L2.CX P w) (k + 1) f fd ps (spM ⟨P, w, base, K, mg, T⟩ ps.length (runS N sk)) := by
  refine F.okX S (fun vs H Q E h => ?_) (fun cdv A outer s H vs Q E hr h => ⟨_, hb _ E ⟨⟨rfl, rfl, rfl, rfl, rfl, takes_of rfl rfl rfl rfl, rfl⟩, rfl, rfl, rfl, hr, ?_⟩, ?_⟩)
  · obtain ⟨ds, as, τ, h, _⟩ := h
    exact h
  · exact passes_of rfl
  · obtain ⟨ds, as, τ, hl, h1, w1, fin⟩ := h
    have hlen : ds.length = ps.length := by rw [← h1.length]; exact hl
    refine ⟨startR N ds, as, τ, fun _ => M.pure .non, fun _ => M.bad, fun _ => M.bad, ⟨env_start h1, w1⟩, fun ρ' as' τ' σ' H' x r e => ?_, fun ρ' as' τ' σ' H' x r e => ?_, fun ρ' as' τ' σ' H' x r e => ?_, fin⟩
    · have fin' : Fin _ _ _ _ _ _ _ Q := fin
      rw [show runS N sk ds τ = M.pure .non τ' from e.symm] at fin'
      exact fin' .non as' H' x r.wr rfl
    · have fin' : Fin _ _ _ _ _ _ _ Q := fin
      rw [show runS N sk ds τ = M.bad τ' from e.symm] at fin'
      exact fin'.elim
    · have fin' : Fin _ _ _ _ _ _ _ Q := fin
      rw [show runS N sk ds τ = M.bad τ' from e.symm] at fin'
      exact fin'.elim
theorem fn_mirrorC {P : Program} {w : World} {K : PySem.W.Frag} {mg : Str → Option Value} {base : Heap} {T : List NdefX.NTab} {x qual : Str} {st : Stmt} {f : Addr} {fd : FuncData} {N ps : List Str} {k : Nat} {sk : SK} (F : Fun K x qual st f fd) (S : FnScope N ps (defScope st))
    (hb : ∀ X E, InDef ⟨P, w, base, K, mg, T⟩ E N (defScope st) k X → X.env.code = fd.code → X.env.qual = qual ++ ".<locals>." → PSs X (defBody st) (tS ⟨P, w, base, K, mg, T⟩ E sk)) : FnOk P w K mg base (L2.CX P w) (k + 1) f fd ps (spM ⟨P, w, base, K, mg, T⟩ ps.length (runS N sk)) := by
  obtain ⟨oc, od, kV, doc, pm, an, cdv, ct, osl, rfl, lk, hcd⟩ := F.ex
  refine fn_of lk hcd S (fun vs H Q E h => ?_) fun A outer s H vs Q E hr h => ⟨_, hb _ E ⟨⟨rfl, rfl, rfl, rfl, rfl, takes_of rfl rfl rfl rfl, rfl⟩, rfl, rfl, rfl, hr, ?_⟩ rfl rfl, ?_⟩
  · obtain ⟨ds, as, τ, h, _⟩ := h
    exact h
  · exact passes_of rfl
  · obtain ⟨ds, as, τ, hl, h1, w1, fin⟩ := h
    have hlen : ds.length = ps.length := by rw [← h1.length]; exact hl
    refine ⟨startR N ds, as, τ, fun _ => M.pure .non, fun _ => M.bad, fun _ => M.bad, ⟨env_start h1, w1⟩, fun ρ' as' τ' σ' H' x r e => ?_, fun ρ' as' τ' σ' H' x r e => ?_, fun ρ' as' τ' σ' H' x r e => ?_, fin⟩
    · have fin' : Fin _ _ _ _ _ _ _ Q := fin
      rw [show runS N sk ds τ = M.pure .non τ' from e.symm] at fin'
      exact fin' .non as' H' x r.wr rfl
    · have fin' : Fin _ _ _ _ _ _ _ Q := fin
      rw [show runS N sk ds τ = M.bad τ' from e.symm] at fin'
      exact fin'.elim
    · have fin' : Fin _ _ _ _ _ _ _ Q := fin
      rw [show runS N sk ds τ = M.bad τ' from e.symm] at fin'
      exact fin'.elim
end Rx
end
section
set_option maxRecDepth 100000
set_option maxHeartbeats 4000000
/-! RxF: what is walked; comprehensions. -/
namespace Rx
open PySem PySem.Spec PyProof.Rows L2
theorem M.bind_ok {α β : Type} {m : M α} {f : α → M β} {τ τ' : Sto} {a : α} (h : m τ = .ok a τ') : M.bind m f τ = f a τ' := by unfold M.bind; rw [h]
theorem M.bind_exc {α β : Type} {m : M α} {f : α → M β} {τ τ' : Sto} {c : Ex} (h : m τ = .exc c τ') : M.bind m f τ = .exc c τ' := by unfold M.bind; rw [h]
theorem M.bind_bad' {α β : Type} {m : M α} {f : α → M β} {τ : Sto} (h : m τ = .bad) : M.bind m f τ = .bad := by unfold M.bind; rw [h]
/-! ### enumerate of a tuple -/
section
open AutoSeq1 (wpAny_loadPart')
theorem meets_enumerate_newT (l : Addr) (items : Array Value) (n : Nat) (dct : Option Addr) (sl : Array (Option Value)) :
    Meets (Builtin.«enumerate.__new__» ⟨[.type "enumerate", .ref l], []⟩) (fun _ R s => s.heap.get? l = some { cls := .type "tuple", dict := dct, data := .seq items n, slots := sl } ∧
      R (.ok (.ret (.ref (s.heap.push { cls := .type "tuple_iterator", data := .fields #[.ref l, .int 0 0] }).objs.size)))
        { s with heap := (s.heap.push { cls := .type "tuple_iterator", data := .fields #[.ref l, .int 0 0] }).push { cls := .type "enumerate", data := .fields #[.none, .bool false, .ref s.heap.objs.size, rawInt 0, .none, .none] } }) :=
  .of_wp fun prog w A R s h => by
    obtain ⟨hp, g, d, tk, os⟩ := s; obtain ⟨hl, h⟩ := h
    have hsub := sub_enumerate
    have hL : Heap.IsTuple (Shared.heap ⟨hp, g, d, tk, os⟩) l items := ⟨_, hl, rfl, n, rfl⟩
    wp_walk using wpAny_loadPart' hl
    refine wpAny_stack_any fun st => wpAny_pure ?_
    split
    · rename_i c _ _ _ _ _
      cases (c == Value.type "enumerate")
      · wp_walk using wpAny_loadPart' hl, wpAny_pyIter_tuple hL
        exact ⟨_, rfl, h⟩
      · wp_walk using wpAny_loadPart' hl, wpAny_pyIter_tuple hL
        exact ⟨_, rfl, h⟩
    · wp_walk using wpAny_loadPart' hl, wpAny_pyIter_tuple hL
      exact ⟨_, rfl, h⟩
theorem call_enumerate_tuple {prog : Program} {w : World} {A : Around} {E : Value → Shared → Prop} {s : Shared} {l : Addr} {items : Array Value} {Q : Value → Shared → Prop} (hL : s.heap.IsTuple l items)
    (h : ∀ h', IsEnum h' (s.heap.objs.size + 1) s.heap.objs.size 0 .none → h'.IsTupleIter s.heap.objs.size l 0 → h'.objs.size = s.heap.objs.size + 2 →
      (∀ b o, s.heap.get? b = some o → h'.get? b = some o) → Q (.ref (s.heap.objs.size + 1)) { s with heap := h' }) :
    wpAny (model prog w) A (call (.type "enumerate") [.ref l]) Q E s := by
  obtain ⟨⟨c, dct, dt, sl⟩, hl, hc, n, hd⟩ := hL
  replace hc : c = .type "tuple" := hc
  replace hd : dt = .seq items n := hd
  subst hc hd
  refine callType_new F.called_enumerate (by decide) (F.typeCall_enumerate_1 _) (F.newCall_enumerate_1 _) (fun obj => F.args_object_init_2 obj _) F.entry_enumerate_new
    (meets_enumerate_newT l items n dct sl) ⟨hl, ?_⟩
  have hz : (s.heap.push { cls := .type "tuple_iterator", data := .fields #[.ref l, .int 0 0] }).objs.size = s.heap.objs.size + 1 := Heap.size_push ..
  show _ ∧ _
  rw [hz]
  have he : IsEnum ((s.heap.push { cls := .type "tuple_iterator", data := .fields #[.ref l, .int 0 0] }).push
      { cls := .type "enumerate", data := .fields #[.none, .bool false, .ref s.heap.objs.size, rawInt 0, .none, .none] }) (s.heap.objs.size + 1) s.heap.objs.size 0 .none := by
    have := Heap.get?_push_size (s.heap.push { cls := .type "tuple_iterator", data := .fields #[.ref l, .int 0 0] })
      (o := { cls := .type "enumerate", data := .fields #[.none, .bool false, .ref s.heap.objs.size, rawInt 0, .none, .none] }) rfl
    rw [hz] at this; exact this
  refine ⟨⟨_, he, rfl⟩, h _ he ⟨_, Heap.get?_push_of_some _ (Heap.get?_push_size _ rfl), rfl, rfl⟩ (by rw [Heap.size_push, hz]) fun b o x => Heap.get?_push_of_some _ (Heap.get?_push_of_some _ x)⟩
end

theorem wpAny_pyNext_enum_endT {prog : Program} {w : World} {A : Around} {E : Value → Shared → Prop} {s : Shared} {e it l : Addr} {i : Nat} {items : Array Value} {old : Value} {Q : Option Value → Shared → Prop} (hh : A.handled = none)
    (he : IsEnum s.heap e it i old) (hit : s.heap.IsTupleIter it l i) (hl : s.heap.IsTuple l items) (hx : items[i]? = none)
    (hQ : ∀ h', Heap.ExtBut it s.heap h' → Q none { s with heap := h' }) : wpAny (model prog w) A (pyNext (.ref e)) Q E s := by
  have hT : s.TypeIs (.ref e) "enumerate" := ⟨_, he, rfl⟩
  unfold pyNext
  refine wpAny_bind (wpAny_attempt (wpAny_callSpecial?_slot (name := Str.ofString "__next__") hT F.slot_enumerate_next
    (wpAny_call_entry F.slot_enumerate_next hT F.entry_enumerate_next ?_ (F.args_enumerate_next_1 _))))
  show wpAny _ _ (field (.ref e) 2 >>= _) _ _ _
  refine wpAny_bind (wpAny_field he rfl (x := .ref it) rfl ?_)
  refine wpAny_bind (wpAny_nextOf_tuple_end hh hit hl hx fun h' x he' hx' => ?_)
  obtain ⟨o, ho, hc⟩ := hx'
  refine wpAny_bind (wpAny_isInstance (T := "StopIteration") (b := true) ⟨o, ho, hc⟩ isSubtype_stop ?_)
  exact wpAny_pure (hQ _ he')
/-- the tuple at a as it stands at each turn, each item in a new pair -/
def IteT (K : PySem.W.Frag) (a : Addr) : It :=
  ⟨fun i H => ∃ (xs : List V) (x : V), SqT K H a xs ∧ xs[i]? = some x, fun i H v H' => ∃ T x, v = .ref T ∧ H T = none ∧ H' = upd H T (.tup [.int (i : Nat), x]) ∧ ∀ xs, SqT K H a xs → xs[i]? = some x, fun i H => ∃ xs : List V, SqT K H a xs ∧ xs.length ≤ i⟩
theorem turn_enumT {P : Program} {w : World} {K : PySem.W.Frag} {elts : List Expr} {kk : Nat} {tpos : Pos} (a e it : Addr) :
    Turn P w K (.Tuple elts kk tpos) (IteT K a) [e, it] e (fun i h => (∃ old, IsEnum h e it ((i : Nat) : Int) old) ∧ h.IsTupleIter it a i ∧ e ≠ it) where
  mem := by simp
  obj := fun i h st b hb => by
    obtain ⟨⟨old, he⟩, ⟨o, ho, hc, hd⟩, _⟩ := st
    have e' : b = e ∨ b = it := by simpa using hb
    rcases e' with z | z
    · rw [z]; exact ⟨_, he, fun v q => nomatch q⟩
    · rw [z]; exact ⟨o, ho, fun v q => by rw [hd] at q; cases q⟩
  keep := fun i h h' st k => let ⟨⟨old, he⟩, hi, hne⟩ := st; ⟨⟨old, k e (by simp) _ he⟩, hi.at fun o q => k it (by simp) o q, hne⟩
  item := by
    intro X hP hw hK hc i pins s σ H E I hf st hg
    subst hP hw hK
    obtain ⟨⟨old, he⟩, hit, hne⟩ := st
    obtain ⟨xs, x, hq, hx⟩ := hg
    obtain ⟨its, rv, p, hz⟩ := I.tuple hq
    obtain ⟨u, hu, ru⟩ := rv.get hx
    have p' : s.heap.IsTuple a its.toArray := p
    have hel : e < s.heap.objs.size := Heap.lt_size he
    have hil : it < s.heap.objs.size := by obtain ⟨_, q, _⟩ := hit; exact Heap.lt_size q
    have hea : e ≠ a := fun z => by
      obtain ⟨o, ho, hcl, _⟩ := id p'
      rw [← z, show s.heap.get? e = _ from he] at ho
      cases ho
      exact absurd hcl (fun z => by injection z with z; exact absurd z (by decide))
    have hia : a ≠ it := fun z => by
      obtain ⟨o, ho, hcl, _⟩ := id p'
      obtain ⟨o', ho', hcl', _⟩ := id hit
      rw [z, ho'] at ho
      cases ho
      rw [hcl'] at hcl
      exact absurd hcl (fun z => by injection z with z; exact absurd z (by decide))
    refine wpAny_pyNext_enum_itemD (Draws.tuple (show X.A.in1.handled = none from I.ok.hd hc) it a hia its.toArray) he ⟨hit, p'⟩ (show i < its.toArray.size by simp; exact (List.getElem?_eq_some_iff.mp hu).1) hne (by simp [hea, hne]) fun y h' tk hy ho hst' hT hsz hk => ?_
    have eu : y = u := by
      have e1 : its.toArray[i]? = some y := hy
      rw [show its.toArray[i]? = its[i]? by simp, hu] at e1
      cases e1
      rfl
    subst eu
    refine ⟨_, rfl, wpAny_letOwnedTupleGo_enum (s := { s with heap := h', toks := tk + 1 }) ho fun h'' he' sb => ?_⟩
    have hT2 : h''.get? s.heap.objs.size = some { cls := .type "tuple", data := .seq #[.int i tk, y] } := (sb.2 _ (Nat.ne_of_gt hel)).trans hT
    have new : ObjOk X.prog X.w (upd H s.heap.objs.size (.tup [.int (i : Nat), x])) h'' s.heap.objs.size (.tup [.int (i : Nat), x]) :=
      ⟨by show 2 ≤ sizeLine; decide, [.int i tk, y], .cons ⟨_, rfl⟩ (.cons ru .nil), ⟨_, hT2, rfl, _, rfl⟩⟩
    have I1 : Inv X pins σ (upd H s.heap.objs.size (.tup [.int (i : Nat), x])) { s with heap := h'', toks := tk + 1 } :=
      I.turnedNew (ch := [e, it]) (fun b ob hb q => (sb.2 b (fun z => hb (by simp [z]))).trans (hk b ob (fun z => hb (by simp [z])) (fun z => hb (by simp [z])) q)) hf (Nat.le_refl _) new
    refine ⟨.ref s.heap.objs.size, _, I1, rfl, ⟨_, x, rfl, I.hok.fresh (Nat.le_refl _), rfl, fun ys hy => by rw [I.tuple_inj hy hq]; exact hx⟩, ⟨⟨y, ?_⟩, hst'.1.at fun o q => (sb.2 it (Ne.symm hne)).trans q, hne⟩, fun b hb => ?_⟩
    · have e1 : ((i + 1 : Nat) : Int) = (i : Int) + 1 := by omega
      rw [e1]; exact he'
    · have hb' : b < s.heap.objs.size := by
        have e' : b = e ∨ b = it := by simpa using hb
        rcases e' with z | z
        · rw [z]; exact hel
        · rw [z]; exact hil
      rw [upd_ne (Nat.ne_of_lt hb')]
      exact (hf b hb).1
  done := by
    intro X hP hw hK hc i pins s σ H E I hf st hg
    subst hP hw hK
    obtain ⟨⟨old, he⟩, hit, hne⟩ := st
    obtain ⟨xs, hq, hx⟩ := hg
    obtain ⟨its, rv, p, hz⟩ := I.tuple hq
    obtain ⟨f0, f1, f2, f3, f4, f5⟩ := hf it (by simp)
    have hl := rv.length
    have p' : s.heap.IsTuple a its.toArray := p
    exact wpAny_pyNext_enum_endT (I.ok.hd hc) he hit p' (by simp; omega) fun h' eb => ⟨rfl, I.turned (t' := s.toks) (fun b o hb q => eb b o hb q) f0 f1 f3 f4 f5⟩
  self := fun A i s Q E st h => let ⟨⟨_, he⟩, _⟩ := st; wpAny_pyIter_enum he h

def iEnumT (K : PySem.W.Frag) (ta : TA) : TI := fun σ H R => ta σ H fun vs H1 => ∃ a xs, vs = [.ref a] ∧ SqT K H1 a xs ∧ R (IteT K a) H1
theorem pi_enumT {X : Cx} {e : Expr} {ta : TA} {p pos tpos : Pos} {elts : List Expr} {kk : Nat} (hg : Gl X "enumerate") (hm : X.mg "enumerate" = none) (ha : PA X [e] ta) (hs : starEach [e] X.env = [(false, eval e X.env)] := by rfl) :
    PI X (.Tuple elts kk tpos) (.Call (.Name "enumerate" p) [e] [] pos) (iEnumT X.K ta) := by
  refine ⟨fun pins s σ H R I h => ?_⟩
  refine Call_ (ld_blt I hg hm boot_enumerate (PyProof.Rows.callWith_type1 (thn (ha.run pos pins s σ H _ I h) fun us s1 ⟨vs, H1, I1, r1, q1⟩ => ?_) hs rfl))
  obtain ⟨a, xs, ex, hq, q⟩ := q1
  subst ex
  cases r1 with
  | cons r rr =>
    cases rr
    cases r
    obtain ⟨its, rv, p', hz⟩ := I1.tuple hq
    refine call_enumerate_tuple (show s1.heap.IsTuple a its.toArray from p') fun h' he hit hsz hk => wpAny_pyIter_enum he ?_
    have I2 : Inv X pins σ H1 { s1 with heap := h' } := I1.kept (t' := s1.toks) hk
    refine ⟨s1.heap.objs.size + 1, [s1.heap.objs.size + 1, s1.heap.objs.size], _, _, H1, rfl, I2, turn_enumT a (s1.heap.objs.size + 1) s1.heap.objs.size, ⟨⟨.none, he⟩, hit, Nat.succ_ne_self _⟩, fun b hb => ?_, q⟩
    have e' : b = s1.heap.objs.size + 1 ∨ b = s1.heap.objs.size := by simpa using hb
    have hle : s1.heap.objs.size ≤ b := by
      rcases e' with z | z
      · rw [z]; exact Nat.le_add_right _ _
      · rw [z]; exact Nat.le_refl _
    exact I1.fpOk hle (I1.hok.fresh hle)

/-! ### the mirrors of what is walked -/
def signsOf (s : Str) : List D := s.cps.toList.map fun c => .str ⟨#[c]⟩
def walkO : D → Option (List D)
  | .tup ds => some ds
  | .lst ds => some ds
  | .str s => some (signsOf s)
  | _ => none
def anyI (m : Rho → M D) (ρ : Rho) : M (List D) := M.bind (m ρ) fun d => ofO (walkO d)
def numbered : Nat → List D → List D
  | _, [] => []
  | n, d :: ds => .tup [.int n, d] :: numbered (n + 1) ds
def enumI (m : Rho → M D) (ρ : Rho) : M (List D) := M.bind (m ρ) fun d => ofO ((itemsO d).map (numbered 0))
def pairsOf : List D → List D → List D
  | a :: as, b :: bs => .tup [a, b] :: pairsOf as bs
  | _, _ => []
def zipO : D → D → Option (List D)
  | .tup as, .tup bs => some (pairsOf as bs)
  | .lst as, .lst bs => some (pairsOf as bs)
  | _, _ => none
def zipI (ma mb : Rho → M D) (ρ : Rho) : M (List D) := M.bind (ma ρ) fun a => M.bind (mb ρ) fun b => ofO (zipO a b)
def countD (lo : Int) : Nat → List D
  | 0 => []
  | n + 1 => .int lo :: countD (lo + 1) n
def rng1O : D → Option (List D)
  | .int j => if -(2 ^ 62) ≤ j ∧ j < 2 ^ 62 then some (countD 0 j.toNat) else none
  | _ => none
def rng2O : D → D → Option (List D)
  | .int i, .int j => if -(2 ^ 62) ≤ i ∧ i < 2 ^ 62 ∧ -(2 ^ 62) ≤ j ∧ j < 2 ^ 62 then some (countD i (j - i).toNat) else none
  | _, _ => none
def rng1I (m : Rho → M D) (ρ : Rho) : M (List D) := M.bind (m ρ) fun d => ofO (rng1O d)
def rng2I (ma mb : Rho → M D) (ρ : Rho) : M (List D) := M.bind (ma ρ) fun a => M.bind (mb ρ) fun b => ofO (rng2O a b)
theorem numbered_get : ∀ (ds : List D) (n i : Nat), (numbered n ds)[i]? = ds[i]?.map fun d => .tup [.int ((n + i : Nat) : Int), d]
  | [], n, i => by simp [numbered]
  | d :: ds, n, 0 => by simp [numbered]
  | d :: ds, n, i + 1 => by
    simp only [numbered, List.getElem?_cons_succ]
    rw [numbered_get ds (n + 1) i, show n + 1 + i = n + (i + 1) by omega]
theorem numbered_len : ∀ (ds : List D) (n : Nat), (numbered n ds).length = ds.length
  | [], n => rfl
  | d :: ds, n => by simp [numbered, numbered_len ds]
theorem pairsOf_get : ∀ (as bs : List D) (i : Nat) (d : D), (pairsOf as bs)[i]? = some d → ∃ a b, as[i]? = some a ∧ bs[i]? = some b ∧ d = .tup [a, b]
  | [], bs, i, d, h => by simp [pairsOf] at h
  | a :: as, [], i, d, h => by simp [pairsOf] at h
  | a :: as, b :: bs, 0, d, h => by
    simp [pairsOf] at h
    exact ⟨a, b, rfl, rfl, h.symm⟩
  | a :: as, b :: bs, i + 1, d, h => by
    simp only [pairsOf, List.getElem?_cons_succ] at h
    exact pairsOf_get as bs i d h
theorem pairsOf_len : ∀ (as bs : List D), (pairsOf as bs).length = min as.length bs.length
  | [], bs => by simp [pairsOf]
  | a :: as, [] => by simp [pairsOf]
  | a :: as, b :: bs => by
    simp only [pairsOf, List.length_cons, pairsOf_len as bs]
    omega
theorem countD_get : ∀ (n : Nat) (lo : Int) (i : Nat), (countD lo n)[i]? = if i < n then some (.int (lo + i)) else none
  | 0, lo, i => by simp [countD]
  | n + 1, lo, 0 => by simp [countD]
  | n + 1, lo, i + 1 => by
    simp only [countD, List.getElem?_cons_succ]
    rw [countD_get n (lo + 1) i]
    by_cases h : i < n
    · rw [if_pos h, if_pos (by omega)]
      congr 2
      omega
    · rw [if_neg h, if_neg (by omega)]
theorem countD_len : ∀ (n : Nat) (lo : Int), (countD lo n).length = n
  | 0, _ => rfl
  | n + 1, lo => by simp [countD, countD_len n]

section
variable {Γ : Gx} {X : Cx} {W : WX} {as : Ads} {τ : Sto} {H : Hp}
theorem SqT.at {K : PySem.W.Frag} {as as1 : Ads} {H H1 : Hp} {a : Addr} {xs : List V} (h : SqT K (Pu as H) a xs) (x : ExtW as H as1 H1) : SqT K H1 a xs := SqT.un (Same.seqT x.same h)
theorem Rd.at {K : PySem.W.Frag} {as as1 : Ads} {H H1 : Hp} {a : Addr} {xs : List V} (h : Rd (Pu as H) a (.lst xs)) (x : ExtW as H as1 H1) : SqL K H1 a xs := Rd.sq (h.imp (x.same _ _) fun ⟨o, q⟩ => ⟨o, x.same _ _ q⟩)
theorem Rep.extW {as' : Ads} {H' : Hp} {K : PySem.W.Frag} {d : D} {v : V} (h : Rep K as (Pu as H) d v) (e : ExtW as H as' H') : Rep K as' (Pu as' H') d v := Rep.mono e.same e.pre _ _ h
theorem yields_tup {a : Addr} {xs : List V} {ds : List D} (h : SqT Γ.K (Pu as H) a xs) (r : Reps Γ.K as (Pu as H) ds xs) : Yields Γ as H ds (Itt Γ.K a) := fun as1 τ1 H1 x w i => by
  refine ⟨fun d hd => ?_, fun hi => ⟨xs, SqT.at h x, by rw [r.length]; exact hi⟩⟩
  obtain ⟨v, hv, rv⟩ := r.get hd
  exact ⟨⟨xs, v, SqT.at h x, hv⟩, fun y H2 ⟨e, hy⟩ => by
    subst e
    have := hy xs (SqT.at h x)
    rw [hv] at this
    cases this
    exact ⟨Ext.refl, w, Rep.extW rv x⟩⟩
theorem yields_lst {a : Addr} {xs : List V} {ds : List D} (h : Rd (Pu as H) a (.lst xs)) (r : Reps Γ.K as (Pu as H) ds xs) : Yields Γ as H ds (Itl Γ.K a) := fun as1 τ1 H1 x w i => by
  refine ⟨fun d hd => ?_, fun hi => ⟨xs, Rd.at h x, by rw [r.length]; exact hi⟩⟩
  obtain ⟨v, hv, rv⟩ := r.get hd
  exact ⟨⟨xs, v, Rd.at h x, hv⟩, fun y H2 ⟨e, hy⟩ => by
    subst e
    have := hy xs (Rd.at h x)
    rw [hv] at this
    cases this
    exact ⟨Ext.refl, w, Rep.extW rv x⟩⟩
theorem yields_str {s : Str} : Yields Γ as H (signsOf s) (Its s) := fun as1 τ1 H1 x w i => by
  unfold signsOf
  refine ⟨fun d hd => ?_, fun hi => ?_⟩
  · rw [List.getElem?_map] at hd
    obtain ⟨c, h1, rfl⟩ := Option.map_eq_some_iff.mp hd
    rw [Array.getElem?_toList] at h1
    refine ⟨(Array.getElem?_eq_some_iff.mp h1).1, fun y H2 ⟨e, c', h2, hy⟩ => ?_⟩
    rw [h1] at h2
    cases h2
    subst e hy
    exact ⟨Ext.refl, w, show RD Γ _ _ _ _ from rfl⟩
  · have q : s.cps.toList.length ≤ i := by simpa using hi
    exact (show s.cps.size ≤ i by simpa using q)
theorem yields_rng {lo : Int} {n : Nat} : Yields Γ as H (countD lo n) (Itr lo n) := fun as1 τ1 H1 x w i => by
  refine ⟨fun d hd => ?_, fun hi => by rw [countD_len] at hi; exact hi⟩
  rw [countD_get] at hd
  split at hd <;> cases hd
  rename_i h
  refine ⟨h, fun y H2 ⟨e, hy⟩ => ?_⟩
  subst e hy
  exact ⟨Ext.refl, w, show RD Γ _ _ _ _ from rfl⟩
theorem new_pair {as1 : Ads} {τ1 : Sto} {H1 : Hp} {T : Addr} {d e : D} {x y : V} (w : Wr Γ as1 τ1 H1) (hT : H1 T = none) (rx : RD Γ as1 H1 d x) (ry : RD Γ as1 H1 e y) :
    Ext as1 H1 as1 (upd H1 T (.tup [x, y])) ∧ Wr Γ as1 τ1 (upd H1 T (.tup [x, y])) ∧ RD Γ as1 (upd H1 T (.tup [x, y])) (.tup [d, e]) (.ref T) :=
  ⟨Ext.new w hT, w.new hT, rep_tup w hT (Reps.cons rx (Reps.cons ry Reps.nil))⟩
theorem yields_enumT {a : Addr} {xs : List V} {ds : List D} (h : SqT Γ.K (Pu as H) a xs) (r : Reps Γ.K as (Pu as H) ds xs) : Yields Γ as H (numbered 0 ds) (IteT Γ.K a) := fun as1 τ1 H1 x w i => by
  refine ⟨fun d hd => ?_, fun hi => ⟨xs, SqT.at h x, by rw [r.length]; rw [numbered_len] at hi; exact hi⟩⟩
  rw [numbered_get] at hd
  obtain ⟨d', h1, rfl⟩ := Option.map_eq_some_iff.mp hd
  obtain ⟨v, hv, rv⟩ := r.get h1
  refine ⟨⟨xs, v, SqT.at h x, hv⟩, fun y H2 ⟨T, z, ey, hT, eH, hz⟩ => ?_⟩
  have := hz xs (SqT.at h x)
  rw [hv] at this
  cases this
  subst ey eH
  exact new_pair w hT (show RD Γ _ _ (.int _) _ by rw [Nat.zero_add]; exact rfl) (Rep.extW rv x)
theorem yields_enumL {a : Addr} {xs : List V} {ds : List D} (h : Rd (Pu as H) a (.lst xs)) (r : Reps Γ.K as (Pu as H) ds xs) : Yields Γ as H (numbered 0 ds) (Ite Γ.K a) := fun as1 τ1 H1 x w i => by
  refine ⟨fun d hd => ?_, fun hi => ⟨xs, Rd.at h x, by rw [r.length]; rw [numbered_len] at hi; exact hi⟩⟩
  rw [numbered_get] at hd
  obtain ⟨d', h1, rfl⟩ := Option.map_eq_some_iff.mp hd
  obtain ⟨v, hv, rv⟩ := r.get h1
  refine ⟨⟨xs, v, Rd.at h x, hv⟩, fun y H2 ⟨T, z, ey, hT, eH, hz⟩ => ?_⟩
  have := hz xs (Rd.at h x)
  rw [hv] at this
  cases this
  subst ey eH
  exact new_pair w hT (show RD Γ _ _ (.int _) _ by rw [Nat.zero_add]; exact rfl) (Rep.extW rv x)
theorem yields_zipT {a b : Addr} {xs ys : List V} {ds es : List D} (h : SqT Γ.K (Pu as H) a xs) (h' : SqT Γ.K (Pu as H) b ys) (r : Reps Γ.K as (Pu as H) ds xs) (r' : Reps Γ.K as (Pu as H) es ys) : Yields Γ as H (pairsOf ds es) (RZ.ItzT Γ.K a b) := fun as1 τ1 H1 x w i => by
  refine ⟨fun d hd => ?_, fun hi => ⟨xs, ys, SqT.at h x, SqT.at h' x, by rw [r.length, r'.length]; rw [pairsOf_len] at hi; omega⟩⟩
  obtain ⟨d1, d2, h1, h2, rfl⟩ := pairsOf_get _ _ _ _ hd
  obtain ⟨v, hv, rv⟩ := r.get h1
  obtain ⟨u, hu, ru⟩ := r'.get h2
  refine ⟨⟨xs, ys, v, u, SqT.at h x, SqT.at h' x, hv, hu⟩, fun y H2 ⟨T, p, q, ey, hT, eH, hp, hq⟩ => ?_⟩
  have z1 := hp xs (SqT.at h x)
  have z2 := hq ys (SqT.at h' x)
  rw [hv] at z1
  rw [hu] at z2
  cases z1
  cases z2
  subst ey eH
  exact new_pair w hT (Rep.extW rv x) (Rep.extW ru x)
theorem yields_zipL {a b : Addr} {xs ys : List V} {ds es : List D} (h : Rd (Pu as H) a (.lst xs)) (h' : Rd (Pu as H) b (.lst ys)) (r : Reps Γ.K as (Pu as H) ds xs) (r' : Reps Γ.K as (Pu as H) es ys) : Yields Γ as H (pairsOf ds es) (Itz Γ.K a b) := fun as1 τ1 H1 x w i => by
  refine ⟨fun d hd => ?_, fun hi => ⟨xs, ys, Rd.at h x, Rd.at h' x, by rw [r.length, r'.length]; rw [pairsOf_len] at hi; omega⟩⟩
  obtain ⟨d1, d2, h1, h2, rfl⟩ := pairsOf_get _ _ _ _ hd
  obtain ⟨v, hv, rv⟩ := r.get h1
  obtain ⟨u, hu, ru⟩ := r'.get h2
  refine ⟨⟨xs, ys, v, u, Rd.at h x, Rd.at h' x, hv, hu⟩, fun y H2 ⟨T, p, q, ey, hT, eH, hp, hq⟩ => ?_⟩
  have z1 := hp xs (Rd.at h x)
  have z2 := hq ys (Rd.at h' x)
  rw [hv] at z1
  rw [hu] at z2
  cases z1
  cases z2
  subst ey eH
  exact new_pair w hT (Rep.extW rv x) (Rep.extW ru x)

/-! ### the readings -/
variable {tg e e2 : Expr} {m ma mb : Rho → M D} {p pos tpos : Pos} {elts : List Expr} {kk : Nat} {σ : L2.St}
/-- one datum, then what is walked -/
theorem fin_walk {δ β Z : Type} {R' : Ads → Hp → β → Z → Prop} {d : M δ} {f : δ → M β} {Q : Z → Hp → Prop} (h : Fin Γ R' W σ as H (M.bind d f τ) Q) :
    (∃ x τ', d τ = .ok x τ' ∧ Fin Γ R' W σ as H (f x τ') Q) ∨ ∃ c τ', d τ = .exc c τ' ∧ ∀ (Y α : Type) (R : Ads → Hp → α → Y → Prop) (Q' : Y → Hp → Prop), Fin Γ R W σ as H (.exc c τ') Q' := by
  unfold M.bind at h
  cases q : d τ with
  | bad => rw [q] at h; exact h.elim
  | exc c τ' => rw [q] at h; exact .inr ⟨c, τ', rfl, fun _ _ _ _ => h⟩
  | ok x τ' => rw [q] at h; exact .inl ⟨x, τ', rfl, h⟩
theorem i_any (C : CxR Γ X W) (he : PE X e (tE Γ W m)) : PI X tg e (tI Γ W (anyI m)) := by
  refine ⟨fun pins s σ H R I h => ?_⟩
  obtain ⟨ρ, as, τ, r, h⟩ := h
  have h : Fin Γ (Yields Γ) W σ as H (M.bind (m ρ) (fun d => ofO (walkO d)) τ) R := h
  rcases fin_walk h with ⟨d, τ', q, h⟩ | ⟨c, τ', q, h⟩
  · obtain ⟨ds, hds, g⟩ := fin_ofO h
    unfold walkO at hds
    split at hds <;> cases hds
    · refine (pi_tup he).run pins s σ H R I ⟨ρ, as, τ, r, ?_⟩
      rw [q]
      rintro y as1 H1 x w ⟨a, xs, rfl, h1, h2⟩
      rw [C.K]
      exact ⟨a, rfl, ⟨xs, SqT.un h1⟩, g _ as1 H1 x w (yields_tup h1 h2)⟩
    · refine (pi_list he).run pins s σ H R I ⟨ρ, as, τ, r, ?_⟩
      rw [q]
      rintro y as1 H1 x w ⟨a, xs, rfl, h1, h2⟩
      rw [C.K]
      exact ⟨a, rfl, ⟨xs, Rd.sq h1⟩, g _ as1 H1 x w (yields_lst h1 h2)⟩
    · refine (pi_str he).run pins s σ H R I ⟨ρ, as, τ, r, ?_⟩
      rw [q]
      rintro y as1 H1 x w rfl
      exact ⟨_, rfl, g _ as1 H1 x w yields_str⟩
  · refine (pi_str he).run pins s σ H R I ⟨ρ, as, τ, r, ?_⟩
    rw [q]
    exact h _ _ _ _
theorem i_enum (C : CxR Γ X W) (hg : Gl X "enumerate") (hm : X.mg "enumerate" = none) (ha : PA X [e] (tA Γ W (argsE [.one m]))) (hs : starEach [e] X.env = [(false, eval e X.env)]) :
    PI X (.Tuple elts kk tpos) (.Call (.Name "enumerate" p) [e] [] pos) (tI Γ W (enumI m)) := by
  refine ⟨fun pins s σ H R I h => ?_⟩
  obtain ⟨ρ, as, τ, r, h⟩ := h
  have h : Fin Γ (Yields Γ) W σ as H (M.bind (m ρ) (fun d => ofO ((itemsO d).map (numbered 0))) τ) R := h
  rcases fin_walk h with ⟨d, τ', q, h⟩ | ⟨c, τ', q, h⟩
  · have q' : argsE [.one m] ρ τ = .ok [d] τ' := by
      exact (M.bind_ok q).trans rfl
    obtain ⟨ds, hds, g⟩ := fin_ofO h
    obtain ⟨ds, hd, rfl⟩ := Option.map_eq_some_iff.mp hds
    unfold itemsO at hd
    split at hd <;> cases hd
    · refine (pi_enumT hg hm ha hs).run pins s σ H R I ⟨ρ, as, τ, r, ?_⟩
      rw [q']
      rintro y as1 H1 x w h2
      obtain ⟨z, rfl, a, xs, rfl, h1, h2⟩ := Reps.one h2
      rw [C.K]
      exact ⟨a, xs, rfl, SqT.un h1, g _ as1 H1 x w (yields_enumT h1 h2)⟩
    · refine (pi_enum hg hm ha hs).run pins s σ H R I ⟨ρ, as, τ, r, ?_⟩
      rw [q']
      rintro y as1 H1 x w h2
      obtain ⟨z, rfl, a, xs, rfl, h1, h2⟩ := Reps.one h2
      rw [C.K]
      exact ⟨a, xs, rfl, Rd.sq h1, g _ as1 H1 x w (yields_enumL h1 h2)⟩
  · have q' : argsE [.one m] ρ τ = .exc c τ' := by
      exact M.bind_exc q
    refine (pi_enum hg hm ha hs).run pins s σ H R I ⟨ρ, as, τ, r, ?_⟩
    rw [q']
    exact h _ _ _ _
theorem args2 {a b : D} {τ τ1 τ2 : Sto} {ρ : Rho} (h1 : ma ρ τ = .ok a τ1) (h2 : mb ρ τ1 = .ok b τ2) : argsE [.one ma, .one mb] ρ τ = .ok [a, b] τ2 := by
  have h3 : argsE [.one mb] ρ τ1 = .ok [b] τ2 := (M.bind_ok h2).trans rfl
  exact (M.bind_ok h1).trans ((M.bind_ok h3).trans rfl)
theorem args2x {c : Ex} {τ τ1 : Sto} {ρ : Rho} (h1 : ma ρ τ = .exc c τ1) : argsE [.one ma, .one mb] ρ τ = .exc c τ1 := M.bind_exc h1
theorem args2y {a : D} {c : Ex} {τ τ1 τ2 : Sto} {ρ : Rho} (h1 : ma ρ τ = .ok a τ1) (h2 : mb ρ τ1 = .exc c τ2) : argsE [.one ma, .one mb] ρ τ = .exc c τ2 :=
  (M.bind_ok h1).trans (M.bind_exc (M.bind_exc h2))
theorem i_zip (C : CxR Γ X W) (hg : Gl X "zip") (hm : X.mg "zip" = none) (ha : PA X [e, e2] (tA Γ W (argsE [.one ma, .one mb])))
    (hs : starEach [e, e2] X.env = (false, eval e X.env) :: starEach [e2] X.env) (hpl : (backTo pos (starEach [e2] X.env)).any (·.1) = false) :
    PI X (.Tuple elts kk tpos) (.Call (.Name "zip" p) [e, e2] [] pos) (tI Γ W (zipI ma mb)) := by
  refine ⟨fun pins s σ H R I h => (RZ.pi_zipA hg hm ha hs hpl).run pins s σ H R I ?_⟩
  obtain ⟨ρ, as, τ, r, h⟩ := h
  have h : Fin Γ (Yields Γ) W σ as H (M.bind (ma ρ) (fun a => M.bind (mb ρ) fun b => ofO (zipO a b)) τ) R := h
  refine ⟨ρ, as, τ, r, ?_⟩
  rcases fin_walk h with ⟨d, τ1, q, h⟩ | ⟨c, τ1, q, h⟩
  · rcases fin_walk h with ⟨d2, τ2, q2, h⟩ | ⟨c, τ2, q2, h⟩
    · rw [args2 q q2]
      obtain ⟨ds, hds, g⟩ := fin_ofO h
      rintro y as1 H1 x w h2
      unfold zipO at hds
      split at hds <;> cases hds
      · obtain ⟨y1, y2, rfl, ⟨a, xs, rfl, h1, h5⟩, b, ys, rfl, h3, h4⟩ := Reps.two h2
        rw [C.K]
        exact ⟨a, b, xs, ys, rfl, .inr ⟨SqT.un h1, SqT.un h3, g _ as1 H1 x w (yields_zipT h1 h3 h5 h4)⟩⟩
      · obtain ⟨y1, y2, rfl, ⟨a, xs, rfl, h1, h5⟩, b, ys, rfl, h3, h4⟩ := Reps.two h2
        rw [C.K]
        exact ⟨a, b, xs, ys, rfl, .inl ⟨Rd.sq h1, Rd.sq h3, g _ as1 H1 x w (yields_zipL h1 h3 h5 h4)⟩⟩
    · rw [args2y q q2]
      exact h _ _ _ _
  · rw [args2x q]
    exact h _ _ _ _
theorem i_rng1 (hg : Gl X "range") (hm : X.mg "range" = none) (ha : PA X [e] (tA Γ W (argsE [.one m]))) (hs : starEach [e] X.env = [(false, eval e X.env)]) : PI X tg (.Call (.Name "range" p) [e] [] pos) (tI Γ W (rng1I m)) := by
  refine ⟨fun pins s σ H R I h => (pi_range1 hg hm ha hs).run pins s σ H R I ?_⟩
  obtain ⟨ρ, as, τ, r, h⟩ := h
  have h : Fin Γ (Yields Γ) W σ as H (M.bind (m ρ) (fun d => ofO (rng1O d)) τ) R := h
  refine ⟨ρ, as, τ, r, ?_⟩
  rcases fin_walk h with ⟨d, τ', q, h⟩ | ⟨c, τ', q, h⟩
  · have q' : argsE [.one m] ρ τ = .ok [d] τ' := by
      exact (M.bind_ok q).trans rfl
    rw [q']
    obtain ⟨ds, hds, g⟩ := fin_ofO h
    rintro y as1 H1 x w h2
    obtain ⟨z, rfl, h3⟩ := Reps.one h2
    unfold rng1O at hds
    split at hds
    · split at hds <;> cases hds
      rename_i b
      exact ⟨_, by rw [show z = _ from h3], b.1, b.2, g _ as1 H1 x w yields_rng⟩
    · cases hds
  · have q' : argsE [.one m] ρ τ = .exc c τ' := by
      exact M.bind_exc q
    rw [q']
    exact h _ _ _ _
theorem i_rng2 (hg : Gl X "range") (hm : X.mg "range" = none) (ha : PA X [e, e2] (tA Γ W (argsE [.one ma, .one mb]))) (hs : starEach [e, e2] X.env = [(false, eval e X.env), (false, eval e2 X.env)]) (hs2 : starEach [e2] X.env = [(false, eval e2 X.env)]) : PI X tg (.Call (.Name "range" p) [e, e2] [] pos) (tI Γ W (rng2I ma mb)) := by
  refine ⟨fun pins s σ H R I h => (pi_range2 hg hm ha hs hs2).run pins s σ H R I ?_⟩
  obtain ⟨ρ, as, τ, r, h⟩ := h
  have h : Fin Γ (Yields Γ) W σ as H (M.bind (ma ρ) (fun a => M.bind (mb ρ) fun b => ofO (rng2O a b)) τ) R := h
  refine ⟨ρ, as, τ, r, ?_⟩
  rcases fin_walk h with ⟨d, τ1, q, h⟩ | ⟨c, τ1, q, h⟩
  · rcases fin_walk h with ⟨d2, τ2, q2, h⟩ | ⟨c, τ2, q2, h⟩
    · rw [args2 q q2]
      obtain ⟨ds, hds, g⟩ := fin_ofO h
      rintro y as1 H1 x w h2
      obtain ⟨y1, y2, rfl, h3, h4⟩ := Reps.two h2
      unfold rng2O at hds
      split at hds
      · split at hds <;> cases hds
        rename_i b
        exact ⟨_, _, by rw [show y1 = _ from h3, show y2 = _ from h4], b, g _ as1 H1 x w yields_rng⟩
      · cases hds
    · rw [args2y q q2]
      exact h _ _ _ _
  · rw [args2x q]
    exact h _ _ _ _
end
end Rx
end
section
set_option maxRecDepth 100000
set_option maxHeartbeats 4000000
/-! RxL: lambdas: how arguments bind; a lambda is made; it is called. -/
namespace Rx
open PySem PySem.Spec PyProof.Rows L2

/-! ### plain parameters bind by position -/
theorem zip_lookup : ∀ {ps : List Str} {us : List Value} {i : Nat} {x : Str}, ps.Nodup → us.length = ps.length → ps[i]? = some x → (ps.zip us).lookup x = us[i]?
  | [], _, _, _, _, _, h => by simp at h
  | p :: ps, [], _, _, _, h, _ => by simp at h
  | p :: ps, u :: us, 0, x, nd, hl, h => by
    simp at h
    subst h
    simp [List.lookup_cons]
  | p :: ps, u :: us, i + 1, x, nd, hl, h => by
    have hx : ps[i]? = some x := by simpa using h
    have ne : x ≠ p := fun e => (List.nodup_cons.mp nd).1 (e ▸ List.mem_of_getElem? hx)
    have hb : (x == p) = false := beq_eq_false_iff_ne.mpr ne
    simp only [List.zip_cons_cons, List.lookup_cons, hb]
    rw [zip_lookup (List.nodup_cons.mp nd).2 (by simpa using hl) hx]
    simp
theorem zip_some {ps : List Str} {us : List Value} {x : Str} (nd : ps.Nodup) (hl : us.length = ps.length) (hx : x ∈ ps) : ∃ u, (ps.zip us).lookup x = some u := by
  obtain ⟨i, hi⟩ := List.mem_iff_getElem?.mp hx
  have hlt := (List.getElem?_eq_some_iff.mp hi).1
  exact ⟨us[i]'(by omega), by rw [zip_lookup nd hl hi]; exact List.getElem?_eq_getElem (by omega)⟩
theorem zip_fm : ∀ {ps : List Str} {us : List Value} (l : List (Str × Value)), us.length = ps.length → (∀ (i : Nat) (x : Str), ps[i]? = some x → l.lookup x = us[i]?) → ps.filterMap (fun n => (l.lookup n).map (fun v => (n, v))) = ps.zip us
  | [], us, l, hl, h => by simp
  | p :: ps, [], l, hl, h => by simp at hl
  | p :: ps, u :: us, l, hl, h => by
    have h0 := h 0 p (by simp)
    rw [List.filterMap_cons, h0]
    simp only [List.getElem?_cons_zero, Option.map_some, List.zip_cons_cons]
    rw [zip_fm l (by simpa using hl) fun i x hx => by simpa using h (i + 1) x (by simpa using hx)]
theorem bind_plain {fd : FuncData} {as : List Arg} {us : List Value} (hp : fd.params = ⟨[], as, none, [], [], none, []⟩) (hd : fd.defaults = .none) (nd : (as.map (·.arg)).Nodup) (hl : us.length = (as.map (·.arg)).length) : bindArgs fd ⟨us, []⟩ = pure ((as.map (·.arg)).zip us) := by
  have hz : ∀ i x, (as.map (·.arg))[i]? = some x → ((as.map (·.arg)).zip us).lookup x = us[i]? := fun i x h => zip_lookup nd hl h
  have hm : (as.map (·.arg)).filter (fun n => (((as.map (·.arg)).zip us).lookup n).isNone) = [] := by
    rw [List.filter_eq_nil_iff]
    intro x hx
    obtain ⟨u, hu⟩ := zip_some nd hl hx
    rw [hu]
    simp
  have hi : seqItems? fd.defaults = pure none := by rw [hd]; rfl
  unfold bindArgs
  rw [hp, hi]
  have hz0 : (#[] : Array Value).toList = [] := rfl
  have g1 : ¬ ((decide (us.length > (as.map (·.arg)).length) && (none : Option Arg).isNone) = true) := by
    rw [hl]; simp
  have fm := zip_fm ((as.map (·.arg)).zip us) hl hz
  simp only [List.map_nil, List.nil_append, List.append_nil, pure_bind, List.forIn_nil, Option.getD_none, hz0, List.drop_nil, List.length_nil, Nat.sub_zero, List.take_length, hm, List.isEmpty_nil, Bool.not_true, if_neg g1, if_false, Bool.false_eq_true, List.zip_nil_right]
  rw [fm]

/-- the names of plain parameters -/
def plainPs : Arguments → Option (List Str)
  | ⟨[], as, none, [], [], none, []⟩ => some (as.map (·.arg))
  | _ => none
theorem bind_ps {fd : FuncData} {ps : List Str} {us : List Value} (hp : plainPs fd.params = some ps) (hd : fd.defaults = .none) (nd : ps.Nodup) (hl : us.length = ps.length) : bindArgs fd ⟨us, []⟩ = pure (ps.zip us) := by
  unfold plainPs at hp
  split at hp
  · rename_i as e
    cases hp
    exact bind_plain e hd nd hl
  · cases hp
/-! ### a lambda is made -/
/-- the maker's code object and its table -/
structure LamCtx (Γ : Gx) (X : Cx) : Prop where
  ex : ∃ (cc P : Addr) (nm : Nat → Nat → Str), X.env.code = .ref cc ∧ LamX.TabB X.base X.mg cc P ∧ (P, nm) ∈ Γ.T ∧ (∀ l k, nm l k = X.env.qual ++ "<lambda>") ∧ ∀ p ∈ Γ.T, p.1 = P → p.2 = nm
section
variable {X : Cx} {pins : List (Addr × Obj)} {σ : L2.St} {H : Hp} {s : Shared}
/-- a function object just laid is known, frozen -/
theorem inv_fz {o : Obj} {t' : Nat} (I : Inv X pins σ H s) (hf : o.isFreed = false) : Inv X pins σ (upd H s.heap.objs.size (fz o)) { s with heap := s.heap.push o, toks := t' } := by
  have e := Heap.get?_push_size s.heap (o := o) hf
  exact I.laid (a := s.heap.objs.size) (fun b u q => Heap.get?_push_of_some _ q) (Nat.le_refl _) ⟨e, True.intro, ⟨_, e⟩, fun _ _ _ _ => True.intro⟩
theorem lam_makeN {T : List NdefX.NTab} {nm : Nat → Nat → Str} {c P : Addr} {params : Arguments} {body : Expr} {scope : Scope} {pos : Pos} {E : Value → Shared → Prop} {Q : Value → Shared → Prop} (I : Inv X pins σ H s) (TB : LamX.TabB X.base X.mg c P)
    (hcode : X.env.code = .ref c) (hm : (P, nm) ∈ T) (hn : nm pos.line pos.col = X.env.qual ++ "<lambda>") (hu : ∀ p ∈ T, p.1 = P → p.2 = nm) (hT : NdefX.TabsN T H) (hdef : defaultsOf params X.env = ([], []))
    (hfree : ∀ y ∈ scope.names, y.2 = .free → ∃ c, X.env.cells.lookup y.1 = some c)
    (h : ∀ (f c' : Addr) (pm ctv : Value) (H1 : Hp) (s' : Shared), Inv X pins σ H1 s' → LamX.ExtN H H1 → NdefX.TabsN T H1 → H f = none → H1 f = some (fz (PySem.W.kla_obj "<lambda>" (X.env.qual ++ "<lambda>") params body scope (cloFrom X.env.cells scope.names []) pm c' ctv)) →
      H1 c' = some (LamX.CodeO c' (X.env.qual ++ "<lambda>")) → Q (.ref f) s') : wpAny (model X.prog X.w) X.A (eval (.Lambda params body scope pos) X.env) Q E s := by
  refine PySem.W.kla_eval hdef ?_
  obtain ⟨ps, hP, ht, ha⟩ := (show NdefX.TabN H P nm from hT _ hm)
  have tabP := I.hok P _ hP
  have buP := TB.bm.keeps I.bk
  have glo := I.mod.glob.keeps I.bk
  cases hc : codeAmong pos ps.toList with
  | some cv =>
    obtain ⟨c', rfl, hco⟩ := ha pos cv hc
    rw [hn] at hco
    refine PySem.W.kla_makeFunctionHit (closure_ok hfree) I.ok.glob glo hcode (TB.code.keeps I.bk) tabP ht hc buP fun ctv h' tk old _ => ?_
    have J : Inv X pins σ H { s with heap := h', toks := tk } := I.kept old
    have free := J.hok.fresh (Nat.le_refl _)
    have J2 := inv_fz (t' := tk) (o := PySem.W.kla_obj "<lambda>" (X.env.qual ++ "<lambda>") params body scope (cloFrom X.env.cells scope.names []) ((X.mg "__name__").getD .none) c' ctv) J rfl
    have up : ∀ b o, H b = some o → upd H h'.objs.size (fz (PySem.W.kla_obj "<lambda>" (X.env.qual ++ "<lambda>") params body scope (cloFrom X.env.cells scope.names []) ((X.mg "__name__").getD .none) c' ctv)) b = some o := fun b o e => by
      rw [upd_ne (ne_of_none e free)]
      exact e
    exact h _ c' _ ctv _ _ J2 (LamX.ExtN.of up) (hT.ext up) free upd_same (up _ _ hco)
  | none =>
    refine PySem.W.kla_makeFunction (closure_ok hfree) I.ok.glob glo hcode (TB.code.keeps I.bk) tabP ht hc TB.gP buP fun c' ctv h' tk old above below code tab' => ?_
    obtain ⟨c2, oc, vs, t, ec, hoc, hd, hv⟩ := code
    cases ec
    have noC : H c' = none := I.hok.fresh above
    have J := LamX.inv_table (t' := tk) (more := #[rawInt pos.line, rawInt pos.col, .ref c']) (h' := h') I hP (fun b o hb e => old b o hb e) tab' above ⟨oc, vs, t, hoc, hd, hv⟩
    have N1 : LamX.ExtN H (upd (upd H P (.tbl (ps ++ #[rawInt pos.line, rawInt pos.col, .ref c']))) c' (LamX.CodeO c' (X.env.qual ++ "<lambda>"))) := fun b o e nt => by
      have n1 : b ≠ P := fun z => nt ps (Option.some.inj (e.symm.trans (by rw [z]; exact hP)))
      rw [upd_ne (ne_of_none e noC), upd_ne n1]
      exact e
    have T1 : NdefX.TabsN T (upd (upd H P (.tbl (ps ++ #[rawInt pos.line, rawInt pos.col, .ref c']))) c' (LamX.CodeO c' (X.env.qual ++ "<lambda>"))) := by
      intro p hp
      obtain ⟨qs, a1, a2, a3⟩ := hT p hp
      by_cases hb : p.1 = P
      · have en := hu p hp hb
        rw [hb, hP] at a1
        cases a1
        have toL : (ps ++ #[rawInt pos.line, rawInt pos.col, .ref c']).toList = ps.toList ++ [rawInt pos.line, rawInt pos.col, .ref c'] := by simp
        refine ⟨_, by rw [hb, upd_ne (ne_of_none hP noC), upd_same], by rw [toL]; exact PySem.TriplesOk_snoc _ _ _ _ ht, fun p' cv hcv => ?_⟩
        rw [toL] at hcv
        rcases NdefX.among_app2 _ ht hcv with z | ⟨z, z1, z2⟩
        · obtain ⟨c0, e1, e2⟩ := a3 p' cv z
          exact ⟨c0, e1, N1 _ _ e2 LamX.codeO_ne⟩
        · refine ⟨c', z, ?_⟩
          rw [en, ← z1, ← z2, hn]
          exact upd_same
      · refine ⟨qs, by rw [upd_ne (ne_of_none a1 noC), upd_ne hb]; exact a1, a2, fun p' cv hcv => ?_⟩
        obtain ⟨c0, e1, e2⟩ := a3 p' cv hcv
        exact ⟨c0, e1, N1 _ _ e2 LamX.codeO_ne⟩
    have free := J.hok.fresh (Nat.le_refl _)
    have J2 := inv_fz (t' := tk) (o := PySem.W.kla_obj "<lambda>" (X.env.qual ++ "<lambda>") params body scope (cloFrom X.env.cells scope.names []) ((X.mg "__name__").getD .none) c' ctv) J rfl
    refine h _ c' _ ctv _ _ J2 (fun b o e nt => ?_) (T1.ext fun b o e => ?_) (I.hok.fresh (Nat.le_trans above (Nat.le_of_lt below))) upd_same ?_
    · have e1 := N1 b o e nt
      exact (upd_ne (ne_of_none e1 free)).trans e1
    · exact (upd_ne (ne_of_none e free)).trans e
    · exact (upd_ne (Nat.ne_of_lt below)).trans upd_same
end
section
variable {Γ : Gx} {as : Ads} {τ : Sto} {H H1 : Hp}
/-- behind the making: data stay, the store stays -/
theorem ExtN.ext (w : Wr Γ as τ H) (e : LamX.ExtN H H1) (t : NdefX.TabsN Γ.T H1) : Ext as H as H1 ∧ Wr Γ as τ H1 := by
  have sm : Same (Pu as H) (Pu as H1) := fun b o h => by
    obtain ⟨h1, h2⟩ := Pu_some h
    have ht : ∀ ps, o ≠ .tbl ps := fun ps z => by
      unfold Pu at h
      rw [if_neg h2, h1, z] at h
      cases h
    exact Pu_of (e _ _ h1 ht) h2 ht
  refine ⟨⟨List.prefix_refl _, rfl, sm, fun b hb => ?_⟩, ⟨w.len, w.nd, fun b hb => ?_, fun n so a h1 h2 => ?_, t⟩⟩
  · obtain ⟨xs, q⟩ := w.live b hb
    rw [q]
    exact e _ _ q fun _ z => nomatch z
  · obtain ⟨xs, q⟩ := w.live b hb
    exact ⟨xs, e _ _ q fun _ z => nomatch z⟩
  · have q := w.ob n so a h1 h2
    cases so with
    | lst ds => obtain ⟨xs, a1, a2⟩ := q; exact ⟨xs, e _ _ a1 (fun _ z => nomatch z), Reps.mono sm (List.prefix_refl _) _ _ a2⟩
    | ins C fs => obtain ⟨dx, xs, a1, a2⟩ := q; exact ⟨dx, xs, e _ _ a1 (fun _ z => nomatch z), Reps.mono sm (List.prefix_refl _) _ _ a2⟩
    | dct kvs => obtain ⟨xs, a1, a2⟩ := q; exact ⟨xs, e _ _ a1 (fun _ z => nomatch z), Reps.mono sm (List.prefix_refl _) _ _ a2⟩
theorem frees_none {names : List (Str × NameKind)} (h : ∀ y ∈ names, y.2 ≠ .free) : ∀ {cells acc : List (Str × Addr)}, cloFrom cells names acc = acc := by
  induction names with
  | nil => intro cells acc; rfl
  | cons y r ih =>
    intro cells acc
    obtain ⟨x, k⟩ := y
    have hk : k ≠ .free := h (x, k) List.mem_cons_self
    have e : cloFrom cells ((x, k) :: r) acc = cloFrom cells r acc := by
      show (if k == .free then _ else _) = _
      rw [if_neg (by simpa using hk)]
    rw [e]
    exact ih fun y hy => h y (List.mem_cons_of_mem _ hy)
variable {X : Cx} {W : WX} {params : Arguments} {body : Expr} {scope : Scope} {pos : Pos}
/-- a lambda that captures nothing -/
theorem e_lam0 (C : CxR Γ X W) (L : LamCtx Γ X) (hf : ∀ y ∈ scope.names, y.2 ≠ .free) (hd : defaultsOf params X.env = ([], [])) : PE X (.Lambda params body scope pos) (tE Γ W fun _ => M.pure (.clo (.Lambda params body scope pos) [])) := by
  obtain ⟨cc, P, nm, l1, l2, l3, l4, l5⟩ := L.ex
  refine ⟨fun pins s σ H Q I h => ?_⟩
  obtain ⟨ρ, as, τ, r, h⟩ := h
  refine lam_makeN I l2 l1 l3 (l4 _ _) l5 r.wr.tab hd (fun y hy e => absurd e (hf y hy)) fun f c' pm ctv H1 s' I1 eN T1 f0 f1 c1 => ?_
  obtain ⟨x, w⟩ := ExtN.ext r.wr eN T1
  have nfr : f ∉ as.as ++ as.hid := r.wr.fresh f0
  have pf : Pu as H1 f = some (fz (PySem.W.kla_obj "<lambda>" (X.env.qual ++ "<lambda>") params body scope (cloFrom X.env.cells scope.names []) pm c' ctv)) := Pu_of f1 nfr fun _ z => nomatch z
  refine ⟨.ref f, H1, I1, rfl, h (.ref f) as H1 x w ⟨f, [], rfl, ⟨_, _, pm, ctv, c', pf, Pu_of c1 ?_ LamX.codeO_ne, ?_⟩, rfl⟩⟩
  · intro z
    rcases List.mem_append.mp z with z | z
    · obtain ⟨n, hn, e⟩ := List.getElem_of_mem z
      have hn' : n < τ.length := by rw [← w.len]; exact hn
      have q := w.ob n τ[n] c' (List.getElem?_eq_getElem hn') (by rw [List.getElem?_eq_getElem hn, e])
      cases hs : τ[n] with
      | lst ds => rw [hs] at q; obtain ⟨xs, q, _⟩ := q; rw [c1] at q; exact nomatch q
      | ins C fs => rw [hs] at q; obtain ⟨dx, xs, q, _⟩ := q; rw [c1] at q; exact nomatch q
      | dct kvs => rw [hs] at q; obtain ⟨xs, q, _⟩ := q; rw [c1] at q; exact nomatch q
    · obtain ⟨xs, q⟩ := w.live c' z
      rw [c1] at q
      exact nomatch q
  · rw [frees_none hf]
    have e : freesOf scope = [] := by
      unfold freesOf
      rw [List.map_eq_nil_iff, List.filter_eq_nil_iff]
      intro y hy
      have := hf y hy
      simpa using this
    rw [e]
    refine ⟨rfl, fun y c z => ?_, fun y c z => ?_, fun x y c z => ?_, fun i y x z => ?_⟩
    · cases z
    · cases z
    · cases z
    · cases z
end
/-! ### a closure is called -/
def cloO : D → Option Unit
  | .clo _ _ => some ()
  | _ => none
/-- a local name is called: a closure -/
def cloF (ap : D → List D → M D) (i : Nat) (ms : List Arg1) (ρ : Rho) : M D := M.bind (getS ρ i) fun d => M.bind (ofO (cloO d)) fun _ => M.bind (argsE ms ρ) fun ds => ap d ds
theorem getS_ok {ρ : Rho} {i : Nat} {τ τ' : Sto} {d : D} (h : getS ρ i τ = .ok d τ') : ρ[i]? = some (some d) ∧ τ' = τ := by
  cases e : ρ[i]? with
  | none => unfold getS at h; rw [e] at h; cases h
  | some o =>
    cases o with
    | none => unfold getS at h; rw [e] at h; cases h
    | some d' =>
      unfold getS at h
      rw [e] at h
      cases h
      exact ⟨rfl, rfl⟩
/-- what a closure's call does: mb the mirror of the lambda's body -/
structure Applies (Γ : Gx) (k : Nat) (lam : Expr) (caps : List D) (ds : List D) (N : List Str) (ps : List Str) (body : Expr) (mb : Rho → M D) : Prop where
  ex : ∃ params scope lp, lam = .Lambda params body scope lp ∧ caps = [] ∧ plainPs params = some ps ∧ NdefX.NScope N ps [] scope ∧ ds.length = ps.length ∧
    ∀ (X' : Cx) (W : WX), CxR Γ X' W → X'.N = N → X'.env.scope = scope → X'.fn = (fun _ => false) → Room k X'.A → PE X' body (tE Γ W mb)
theorem cloFrom_nil {scope : Scope} {cells : List (Str × Addr)} (h : ∀ y ∈ scope.names, y.2 ≠ .free) : cloFrom cells scope.names [] = [] := frees_none h
section
variable {Γ : Gx} {X : Cx} {W : WX} {k : Nat}
theorem run_clo {pins : List (Addr × Obj)} {σ : L2.St} {H : Hp} {s : Shared} {Q : VK} {us : List Value} {vs : List V} {as : Ads} {τ : Sto} {lam : Expr} {caps ds : List D} {N ps : List Str} {body : Expr} {mb : Rho → M D} {f : Addr} {xs : List V}
    (C : CxR Γ X W) (hr : Room (k + 1) X.A) (I : Inv X pins σ H s) (w : Wr Γ as τ H) (r : Vals vs us) (rd : Reps Γ.K as (Pu as H) ds vs) (hl : LamAt (Pu as H) f lam xs) (A : Applies Γ k lam caps ds N ps body mb)
    (h : Fin Γ (RD Γ) W σ as H (mb (startR N ds) τ) Q) : wpAny (model X.prog X.w) X.A (call (.ref f) us) (EP X pins σ Q) X.xe s := by
  obtain ⟨params, scope, lp, rfl, rfl, hp, S, hlen, hb⟩ := A.ex
  obtain ⟨qual, cl, pm, ctv, c', hf, hc, hz⟩ := hl
  have hlv : vs.length = ps.length := by rw [rd.length]; exact hlen
  have hlu : us.length = ps.length := by rw [← r.length]; exact hlv
  have hf' := Pu_sub _ _ hf
  have hc' := Pu_sub _ _ hc
  obtain ⟨of, _⟩ := I.hok f _ hf'
  have fr0 : freesOf scope = [] := by
    unfold freesOf
    rw [List.map_eq_nil_iff, List.filter_eq_nil_iff]
    intro y hy z
    have := S.free y hy (by simpa using z)
    cases this
  have ndP : ps.Nodup := by
    have q := S.nd.sublist (List.take_sublist (ps.length + 0) N)
    have e : N.take (ps.length + 0) = ps ++ [] := S.pre
    rw [e, List.append_nil] at q
    exact q
  have lim : s.heap.NoLimit := I.env0.mod.nolimit.keeps fun b o e => (I.env0.bs b o e).1
  refine wpAny_call (codeAny_mono (R := CR (L2.CX X.prog X.w) X.stack X.prog X.w H s Q (WE W σ)) ?_ fun r s' hq => ?_)
  · refine PySem.W.kla_callFunE hr.depth of rfl S.co S.gen rfl (NdefX.codeO_at I.hok hc') ?_
    rw [bind_ps (fd := PySem.W.kla_fn "<lambda>" qual params body scope cl pm (.ref c') ctv) hp rfl ndP hlu]
    refine wpAny_pure (wpAny_newFunctionEnv S.nocell (fun ⟨n, _⟩ hy => S.par n (List.of_mem_zip hy).1) (fun h₁ hns hsb => ⟨lim.fresh _ hsb, ?_⟩) S.kind)
    show codeAny _ _ (.expr body (NdefX.envF ⟨"<lambda>", qual, params, [], scope, cl, c'⟩ f s.heap.objs.size)) _ _
    have kp : ∀ b o, s.heap.get? b = some o → h₁.get? b = some o := fun b o e => hsb.extBut b o (Nat.ne_of_lt (Heap.lt_size e)) (Heap.get?_push_of_some _ e)
    have CA : NdefX.CellsAt cl [] [] s.heap H := ⟨rfl, fun y c e => absurd (hz.sub y c e) (by rw [fr0]; simp), fun x y c e => absurd (hz.sub x c e) (by rw [fr0]; simp), fun i y z => by cases z⟩
    have J : Inv (NdefX.ncx (L2.CX X.prog X.w) X.prog X.w X.K X.mg X.base N ⟨"<lambda>", qual, params, [], scope, cl, c'⟩ f X.A X.stack s H (WE W σ)) [] (NdefX.startF N vs []) H { s with heap := h₁, toks := s.toks + (ps.zip us).length } :=
      NdefX.inv_startN S hr.hd I.env0 hlv r CA hns kp
    have PB := hb (NdefX.ncx (L2.CX X.prog X.w) X.prog X.w X.K X.mg X.base N ⟨"<lambda>", qual, params, [], scope, cl, c'⟩ f X.A X.stack s H (WE W σ)) (fun cls d _ H => WE W σ cls d H)
      ⟨C.prog, C.w, C.base, C.K, C.mg, takes_of rfl rfl rfl rfl, rfl⟩ rfl rfl rfl (hr.deeper _)
    refine PySem.W.kla_codeExpr (wpAny_mono (PB.run [] _ (NdefX.startF N vs []) H Q J ?_) (fun v s' hq => ?_) fun e s' hq => hq)
    · exact ⟨startR N ds, as, τ, ⟨env_start rd, w⟩, Fin.wish h fun _ _ _ z => z⟩
    · obtain ⟨w', H', J', rv, q⟩ := hq
      exact ⟨w', H', J'.os, J'.bare, J'.base, J'.hok, rv, q⟩
  · cases r with
    | error e => exact passAt C.tk σ pins H s e s' I hq
    | ok fl =>
      cases fl with
      | ret u => exact I.after hq
      | next => exact False.elim hq
      | brk => exact False.elim hq
      | cont => exact False.elim hq

theorem e_clo {i : Nat} {x : Str} {es : List Expr} {ms : List Arg1} {p1 p2 : Pos} {ap : D → List D → M D} (C : CxR Γ X W) (hr : Room (k + 1) X.A) (hN : X.N[i]? = some x) (hv : Vis X.env.scope x) (hd : (x == ("__debug__" : Str)) = false) (hcd : (x == ("__classdict__" : Str)) = false)
    (ha : PA X es (tA Γ W (argsE ms))) (h0 : es = [] → ms = []) (hs : ∀ e r, es = e :: r → starEach (e :: r) X.env = (false, eval e X.env) :: starEach r X.env ∧ (backTo p2 (starEach r X.env)).any (·.1) = false)
    (hap : ∀ lam caps ds τ, ap (.clo lam caps) ds τ ≠ .bad → ∃ N ps body mb, Applies Γ k lam caps ds N ps body mb ∧ ap (.clo lam caps) ds = mb (startR N ds)) : PE X (.Call (.Name x p1) es [] p2) (tE Γ W (cloF ap i ms)) := by
  refine ⟨fun pins s σ H Q I h => ?_⟩
  obtain ⟨ρ, as, τ, r, h⟩ := h
  have h : Fin Γ (RD Γ) W σ as H (M.bind (getS ρ i) (fun d => M.bind (ofO (cloO d)) fun _ => M.bind (argsE ms ρ) fun ds => ap d ds) τ) Q := h
  rcases fin_walk h with ⟨d, τ0, q, h⟩ | ⟨c, τ0, q, _⟩
  · obtain ⟨eρ, rfl⟩ := getS_ok q
    cases d <;> first | exact h.elim | skip
    rename_i lam caps
    have h : Fin Γ (RD Γ) W σ as H (M.bind (argsE ms ρ) (fun ds => ap (.clo lam caps) ds) τ0) Q := h
    obtain ⟨v, ev, rv⟩ := r.env.at_ i _ eρ
    obtain ⟨f, xs, rfl, hl, rc⟩ := rv
    refine wpAny_Call_Name_kw (thn ((pe_var (pos := p1) (i := i) hN hv hd hcd).run pins s σ H (fun v H1 => v = .ref f ∧ H1 = H) I ⟨.ref f, ev, rfl, rfl⟩) fun u s1 ⟨v, H1, I1, r1, e1, e2⟩ => ?_)
    subst e1 e2
    obtain rfl : u = Value.ref f := r1
    have fin : ∀ us s2, AP X pins σ (fun vs H2 => ∃ as2 τ2 ds, Ext as H1 as2 H2 ∧ Wr Γ as2 τ2 H2 ∧ RDs Γ as2 H2 ds vs ∧ Fin Γ (RD Γ) W σ as2 H2 (ap (.clo lam caps) ds τ2) Q) us s2 → PySem.W.FnAt f s2.heap ∧ wpAny (model X.prog X.w) X.A (call (.ref f) ([] ++ us)) (EP X pins σ Q) X.xe s2 := by
      rintro us s2 ⟨vs, H2, I2, r2, as2, τ2, ds, x, w, rd, fin⟩
      have hl2 : LamAt (Pu as2 H2) f lam xs := hl.mono x.same
      obtain ⟨N, ps, body, mb, A, eq⟩ := hap lam caps ds τ2 (fun z => by rw [z] at fin; exact fin)
      refine ⟨?_, run_clo C hr I2 w r2 rd hl2 A (by rw [← eq]; exact fin)⟩
      cases lam <;> first | exact hl2.elim | skip
      obtain ⟨qual, cl, pm, ctv, c', hf, _⟩ := hl2
      obtain ⟨of, _⟩ := I2.hok f _ (Pu_sub _ _ hf)
      exact ⟨_, _, _, _, of⟩
    have arg : tA Γ W (argsE ms) σ H1 fun vs H2 => ∃ as2 τ2 ds, Ext as H1 as2 H2 ∧ Wr Γ as2 τ2 H2 ∧ RDs Γ as2 H2 ds vs ∧ Fin Γ (RD Γ) W σ as2 H2 (ap (.clo lam caps) ds τ2) Q := tG_of r (h.bind)
    cases es with
    | nil =>
      have e0 : PySem.W.FnAt f s1.heap := by
        cases lam <;> first | exact hl.elim | skip
        obtain ⟨qual, cl, pm, ctv, c', hf, _⟩ := hl
        obtain ⟨of, _⟩ := I1.hok f _ (Pu_sub _ _ hf)
        exact ⟨_, _, _, _, of⟩
      refine PySem.W.callWith_F0 e0 ?_
      have e1 := h0 rfl
      subst e1
      exact (fin [] s1 ⟨[], H1, I1, .nil, as, τ0, [], Ext.refl, r.wr, rfl, h⟩).2
    | cons e es =>
      obtain ⟨h1, h2⟩ := hs e es rfl
      exact PySem.W.callWith_F (by
        cases lam <;> first | exact hl.elim | skip
        obtain ⟨qual, cl, pm, ctv, c', hf, _⟩ := hl
        obtain ⟨of, _⟩ := I1.hok f _ (Pu_sub _ _ hf)
        exact ⟨_, _, _, _, of⟩) (thn (ha.run p2 pins s1 σ H1 _ I1 arg) fun us s2 z => fin us s2 z) h1 h2
  · unfold getS at q
    cases e : ρ[i]? with
    | none => rw [e] at q; cases q
    | some o => cases o <;> (rw [e] at q; cases q)
end
end Rx
end
section
set_option maxRecDepth 100000
set_option maxHeartbeats 4000000
/-! RxG: the store changes; comprehensions; stores side by side. -/
namespace Rx
open PySem PySem.Spec PyProof.Rows L2

/-! ### a thing of the store changes; a hidden list grows -/
theorem tab_upd {T : List NdefX.NTab} {H : Hp} {D : Addr} {o o' : HO} (t : NdefX.TabsN T H) (h : H D = some o) (h1 : ∀ ps, o ≠ .tbl ps) (h2 : ∀ c q, o ≠ LamX.CodeO c q) : NdefX.TabsN T (upd H D o') := fun p hp => by
  obtain ⟨ps, e1, e2, e3⟩ := t p hp
  have n1 : p.1 ≠ D := fun e => by
    rw [e, h] at e1
    cases e1
    exact h1 _ rfl
  refine ⟨ps, by rw [upd_ne n1]; exact e1, e2, fun pos cv hc => ?_⟩
  obtain ⟨c, e4, e5⟩ := e3 pos cv hc
  have n2 : c ≠ D := fun e => by
    rw [e, h] at e5
    cases e5
    exact h2 _ _ rfl
  exact ⟨c, e4, by rw [upd_ne n2]; exact e5⟩
section
variable {Γ : Gx} {as as' : Ads} {τ : Sto} {H H' : Hp}
theorem Pu_upd {D : Addr} {o : HO} (h : D ∈ as.as ++ as.hid) : Pu as (upd H D o) = Pu as H := by
  funext b
  unfold Pu
  by_cases hb : b = D
  · subst hb
    rw [if_pos h, if_pos h]
  · rw [upd_ne hb]
/-- the thing n of the store is now so -/
theorem Wr.put (w : Wr Γ as τ H) {n : Nat} {a : Addr} {so so' : SO} {o' : HO} (ha : as.as[n]? = some a) (hn : τ[n]? = some so) (q : SoR Γ as (upd H a o') a so') : Wr Γ as (τ.set n so') (upd H a o') ∧ Ext as H as (upd H a o') := by
  have ma : a ∈ as.as := List.mem_of_getElem? ha
  have pu : Pu as (upd H a o') = Pu as H := Pu_upd (List.mem_append_left _ ma)
  have ne : ∀ b ∈ as.hid, b ≠ a := fun b hb e => by
    have nd := w.nd
    rw [List.nodup_append] at nd
    exact nd.2.2 a ma b hb e.symm
  have uq : ∀ m, as.as[m]? = some a → m = n := fun m hm => by
    have nd := w.nd
    rw [List.nodup_append] at nd
    obtain ⟨h1, e1⟩ := List.getElem?_eq_some_iff.mp hm
    obtain ⟨h2, e2⟩ := List.getElem?_eq_some_iff.mp ha
    have pw := List.pairwise_iff_getElem.mp nd.1
    rcases Nat.lt_trichotomy m n with h | h | h
    · exact absurd (e1.trans e2.symm) (pw m n h1 h2 h)
    · exact h
    · exact absurd (e2.trans e1.symm) (pw n m h2 h1 h)
  have old := w.ob n so a hn ha
  have tb : NdefX.TabsN Γ.T (upd H a o') := by
    cases so with
    | lst ds => obtain ⟨xs, e, _⟩ := old; exact tab_upd w.tab e (fun _ z => nomatch z) (fun _ _ z => nomatch z)
    | ins C fs => obtain ⟨dx, xs, e, _⟩ := old; exact tab_upd w.tab e (fun _ z => nomatch z) (fun _ _ z => nomatch z)
    | dct kvs => obtain ⟨xs, e, _⟩ := old; exact tab_upd w.tab e (fun _ z => nomatch z) (fun _ _ z => nomatch z)
  refine ⟨⟨by rw [List.length_set]; exact w.len, w.nd, fun b hb => ?_, fun m s b h1 h2 => ?_, tb⟩, ⟨List.prefix_refl _, rfl, by rw [pu]; exact Same.refl _, fun b hb => upd_ne (ne b hb)⟩⟩
  · rw [upd_ne (ne b hb)]
    exact w.live b hb
  · by_cases hm : n = m
    · subst hm
      rw [ha] at h2
      cases h2
      rw [List.getElem?_set_self (List.getElem?_eq_some_iff.mp hn).1] at h1
      cases h1
      exact q
    · rw [List.getElem?_set_ne hm] at h1
      have hb : b ≠ a := fun e => hm (uq m (e ▸ h2)).symm
      exact (w.ob m s b h1 h2).ext (by rw [pu]; exact Same.refl _) (List.prefix_refl _) (fun o e => by rw [upd_ne hb]; exact e)
def Ads.hide (as : Ads) (D : Addr) : Ads := ⟨as.as, D :: as.hid⟩
theorem Pu_hide {D : Addr} {o : HO} (hD : H D = none) : Pu (as.hide D) (upd H D o) = Pu as H := by
  funext b
  unfold Pu Ads.hide
  by_cases hb : b = D
  · subst hb
    rw [if_pos (by simp), hD]
    split <;> rfl
  · rw [upd_ne hb]
    by_cases h : b ∈ as.as ++ as.hid
    · rw [if_pos, if_pos h]
      simp only [List.mem_append, List.mem_cons] at h ⊢
      rcases h with h | h
      · exact .inl h
      · exact .inr (.inr h)
    · rw [if_neg, if_neg h]
      simp only [List.mem_append, List.mem_cons] at h ⊢
      rintro (h1 | h1 | h1)
      · exact h (.inl h1)
      · exact hb h1
      · exact h (.inr h1)
theorem Wr.hide (w : Wr Γ as τ H) {D : Addr} {ys : List V} (hD : H D = none) : Wr Γ (as.hide D) τ (upd H D (.lst ys)) := by
  have kp : ∀ b u, H b = some u → upd H D (.lst ys) b = some u := fun b u e => by rw [upd_ne (ne_of_none e hD)]; exact e
  have fr := w.fresh hD
  refine ⟨w.len, ?_, fun b hb => ?_, fun n so a h1 h2 => ?_, w.tab.ext kp⟩
  · show (as.as ++ (D :: as.hid)).Nodup
    have nd := w.nd
    simp only [List.nodup_append, List.nodup_cons, List.mem_append, List.mem_cons, not_or] at nd fr ⊢
    refine ⟨nd.1, ⟨fr.2, nd.2.1⟩, fun a ha b hb => ?_⟩
    rcases hb with rfl | hb
    · rintro rfl
      exact fr.1 ha
    · exact nd.2.2 a ha b hb
  · rcases List.mem_cons.mp hb with rfl | hb
    · exact ⟨ys, upd_same⟩
    · obtain ⟨u, e⟩ := w.live b hb
      exact ⟨u, kp b _ e⟩
  · exact (w.ob n so a h1 h2).ext (by rw [Pu_hide hD]; exact Same.refl _) (List.prefix_refl _) (kp a)
/-- the hidden list has grown -/
theorem Wr.grow {D : Addr} {xs ys : List V} (w : Wr Γ as τ H) (hD : D ∈ as.hid) (e : H D = some (.lst xs)) : Wr Γ as τ (upd H D (.lst ys)) := by
  have pu : Pu as (upd H D (.lst ys)) = Pu as H := Pu_upd (List.mem_append_right _ hD)
  refine ⟨w.len, w.nd, fun b hb => ?_, fun n so a h1 h2 => ?_, tab_upd w.tab e (fun _ z => nomatch z) (fun _ _ z => nomatch z)⟩
  · by_cases hb2 : b = D
    · subst hb2
      exact ⟨ys, upd_same⟩
    · rw [upd_ne hb2]
      exact w.live b hb
  · have ha : a ≠ D := fun z => by
      have nd := w.nd
      rw [List.nodup_append] at nd
      exact nd.2.2 a (List.mem_of_getElem? h2) D hD z
    exact (w.ob n so a h1 h2).ext (by rw [pu]; exact Same.refl _) (List.prefix_refl _) (fun u q => by rw [upd_ne ha]; exact q)
theorem Pu_show {D : Addr} {hid : List Addr} : Same (Pu ⟨as.as, D :: hid⟩ H) (Pu ⟨as.as, hid⟩ H) := fun b o h => by
  obtain ⟨h1, h2⟩ := Pu_some h
  have ht : ∀ ps, o ≠ .tbl ps := fun ps z => by
    unfold Pu at h
    rw [if_neg h2, h1, z] at h
    cases h
  refine Pu_of h1 ?_ ht
  simp only [List.mem_append, List.mem_cons, not_or] at h2 ⊢
  exact ⟨h2.1, h2.2.2⟩
theorem Wr.unhide {D : Addr} {hid : List Addr} (w : Wr Γ ⟨as.as, D :: hid⟩ τ H) : Wr Γ ⟨as.as, hid⟩ τ H := by
  refine ⟨w.len, ?_, fun b hb => w.live b (List.mem_cons_of_mem _ hb), fun n so a h1 h2 => (w.ob n so a h1 h2).ext Pu_show (List.prefix_refl _) (fun _ e => e), w.tab⟩
  have nd := w.nd
  show (as.as ++ hid).Nodup
  have nd : (as.as ++ (D :: hid)).Nodup := nd
  simp only [List.nodup_append, List.nodup_cons, List.mem_cons] at nd ⊢
  exact ⟨nd.1, nd.2.1.2, fun a ha b hb => nd.2.2 a ha b (.inr hb)⟩
end

/-! ### comprehensions -/
def noX {α : Type} (m : M α) : M α := fun τ => match m τ with
  | .ok a τ' => .ok a τ'
  | _ => .bad
abbrev W0 : WX := fun _ _ _ _ => False
def lcK (g : GK) (c : Rho → M Bool) (el : Rho → M D) (ρ : Rho) : List D → List D → M D
  | [], acc => M.pure (.lst acc)
  | d :: ds, acc => g d (fun ρ1 => M.bind (noX (c ρ1)) fun b => cond b (M.bind (noX (el ρ1)) fun y => if acc.length < sizeLine then lcK g c el ρ ds (acc ++ [y]) else M.bad) (lcK g c el ρ ds acc)) ρ
def wipeR (ρ : Rho) (vs : List Nat) : Rho := vs.foldr (fun i r => r.set i none) ρ
def lcE (mi : Rho → M (List D)) (g : GK) (c : Rho → M Bool) (el : Rho → M D) (vs : List Nat) (ρ : Rho) : M D := M.bind (mi ρ) fun ds => lcK g c el (wipeR ρ vs) ds []
def yesT : Rho → M Bool := fun _ => M.pure true
section
variable {Γ : Gx} {X : Cx} {W : WX} {as : Ads} {τ : Sto} {H : Hp} {σ : L2.St}
theorem noX_ok {α Y : Type} {R : Ads → Hp → α → Y → Prop} {m : M α} {f : α → M D} {r : Res D} (hr : r ≠ .bad) (e : M.bind (noX m) f τ = r) : ∃ a τ', m τ = .ok a τ' ∧ f a τ' = r := by
  unfold M.bind noX at e
  cases q : m τ with
  | ok a τ' => rw [q] at e; exact ⟨a, τ', rfl, e⟩
  | exc c τ' => rw [q] at e; exact absurd e.symm hr
  | bad => rw [q] at e; exact absurd e.symm hr
theorem off_wipe {sl vs : List Nat} {σ2 : L2.St} (h : Off sl (wipe σ vs) σ2) (hs : ∀ i ∈ sl, i ∈ vs) : wipe σ2 vs = wipe σ vs := by
  have hl : σ2.length = σ.length := by rw [h.1, wipe_length]
  refine List.ext_getElem? fun i => ?_
  by_cases hi : i ∈ vs
  · have key : ∀ σ' : L2.St, σ'.length = σ.length → ∀ ws : List Nat, i ∈ ws → (wipe σ' ws)[i]? = if i < σ.length then some none else none := fun σ' hl' => by
      intro ws
      induction ws with
      | nil => intro h; cases h
      | cons v ws ih =>
        intro h
        unfold wipe
        by_cases hv : v = i
        · subst hv
          by_cases hlt : v < σ.length
          · rw [if_pos hlt, List.getElem?_set_self (by rw [wipe_length, hl']; exact hlt)]
          · rw [if_neg hlt, List.getElem?_eq_none (by rw [List.length_set, wipe_length, hl']; omega)]
        · rw [List.getElem?_set_ne hv]
          exact ih ((List.mem_cons.mp h).resolve_left fun e => hv e.symm)
    rw [key σ2 hl vs hi, key σ rfl vs hi]
  · rw [wipe_out hi]
    exact h.2 i fun z => hi (hs i z)
/-- the tests of a clause, the element: in the block -/
abbrev AtBlk (X : Cx) (scope : Scope) (P : Cx → Prop) : Prop := ∀ (s : Shared) (H : Hp) (C : Addr) (cl : List (Str × Addr)) (fp : List Addr), P (X.blk s H scope (compEnvC scope cl C X.env) fp)
variable {elt tg iter : Expr} {ifs : List Expr} {scope : Scope} {own : List (Str × Nat)} {pos : Pos} {mi : Rho → M (List D)} {g : GK} {c : Rho → M Bool} {el : Rho → M D} {sl : List Nat} {tt : TT}
/-- the reading of the loop -/
theorem lc_read {m : Rho → M D} {vs : List Nat} {Q : VK} (hsl : ∀ i ∈ sl, i ∈ vs) (htt : ∀ σ H Q, tT Γ W0 c σ H Q → tt σ H Q) (h : tE Γ W (lcE mi g c el vs) σ H Q) : tLc (tI Γ W mi) (tGr Γ sl g) tt (tE Γ W0 el) vs σ H Q := by
  refine tG_bind (f := fun ds ρ => lcK g c el (wipeR ρ vs) ds []) h fun ρ as τ ds J H1 r ys q => ?_
  intro D hD
  have rw' : Rel Γ (wipeR ρ vs) as τ (wipe σ vs) H1 := ⟨r.env.drop vs, r.wr⟩
  refine ⟨fun i m H' => m = ds.length - i ∧ i ≤ ds.length ∧ ∃ as' τ' accV acc, as.as <+: as'.as ∧ as'.hid = D :: as.hid ∧ Same (Pu as H1) (Pu as' H') ∧ (∀ b ∈ as.hid, H' b = H1 b) ∧ Wr Γ as' τ' H' ∧ H' D = some (.lst accV) ∧ Reps Γ.K as' (Pu as' H') acc accV ∧
      lcK g c el (wipeR ρ vs) (ds.drop i) acc τ' = lcK g c el (wipeR ρ vs) ds [] τ, ?_, ?_⟩
  · refine ⟨ds.length, rfl, Nat.zero_le _, as.hide D, τ, [], [], List.prefix_refl _, rfl, by rw [Pu_hide hD]; exact Same.refl _, fun b hb => upd_ne fun e => r.wr.fresh hD (List.mem_append_right _ (e ▸ hb)), r.wr.hide hD, upd_same, Reps.nil, by rw [List.drop_zero]⟩
  · rintro i m H' ⟨hm, hi, as', τ', accV, acc, pre, hid, sm, hk, w', hDl, ra, eq⟩
    have nb : lcK g c el (wipeR ρ vs) ds [] τ ≠ .bad := fun z => by rw [z] at q; exact q
    obtain ⟨y1, y2⟩ := ys as' τ' H' ⟨pre, sm⟩ w' i
    cases hd : ds[i]? with
    | none =>
      have hi2 := List.getElem?_eq_none_iff.mp hd
      refine .inl ⟨y2 hi2, ?_⟩
      rw [List.drop_of_length_le hi2] at eq
      rw [← eq] at q
      have ea : as' = ⟨as'.as, D :: as.hid⟩ := by rw [← hid]
      have w2 : Wr Γ ⟨as'.as, as.hid⟩ τ' H' := Wr.unhide (as := as') (by rw [← hid]; exact w')
      have sh : Same (Pu as' H') (Pu ⟨as'.as, as.hid⟩ H') := by
        have := Pu_show (as := as') (D := D) (hid := as.hid) (H := H')
        rw [← hid] at this
        exact this
      have nd := w'.nd
      rw [hid] at nd
      refine q (.ref D) ⟨as'.as, as.hid⟩ H' ⟨pre, rfl, sm.trans sh, hk⟩ w2 ⟨D, accV, rfl, Rd.of (Pu_of hDl ?_ fun _ z => nomatch z), Reps.mono (as := as') (as' := ⟨as'.as, as.hid⟩) sh (List.prefix_refl _) _ _ ra⟩
      simp only [List.nodup_append, List.nodup_cons, List.mem_cons] at nd
      simp only [List.mem_append, not_or]
      exact ⟨fun z => nd.2.2 D z D (.inl rfl) rfl, nd.2.1.1⟩
    | some d =>
      obtain ⟨hi2, hd'⟩ := List.getElem?_eq_some_iff.mp hd
      obtain ⟨go, yl⟩ := y1 d hd
      have ed : ds.drop i = d :: ds.drop (i + 1) := by rw [← hd']; exact List.drop_eq_getElem_cons hi2
      rw [ed] at eq
      refine .inr ⟨go, fun H' => ∃ as' τ' accV acc, as.as <+: as'.as ∧ as'.hid = D :: as.hid ∧ Same (Pu as H1) (Pu as' H') ∧ (∀ b ∈ as.hid, H' b = H1 b) ∧ Wr Γ as' τ' H' ∧ H' D = some (.lst accV) ∧ Reps Γ.K as' (Pu as' H') acc accV ∧
          lcK g c el (wipeR ρ vs) (ds.drop (i + 1)) acc τ' = lcK g c el (wipeR ρ vs) ds [] τ, fun H' h => ⟨ds.length - (i + 1), by omega, rfl, hi2, h⟩, fun v H2 hy => ?_⟩
      obtain ⟨x2, w2, rv⟩ := yl v H2 hy
      have rel2 : Rel Γ (wipeR ρ vs) as' τ' (wipe σ vs) H2 := ⟨rw'.env.mono (sm.trans x2.same) pre, w2⟩
      have Dh : D ∈ as'.hid := by rw [hid]; exact List.mem_cons_self
      refine ⟨wipeR ρ vs, as', τ', d, fun ρ1 => M.bind (noX (c ρ1)) fun b => cond b (M.bind (noX (el ρ1)) fun y => if acc.length < sizeLine then lcK g c el (wipeR ρ vs) (ds.drop (i + 1)) (acc ++ [y]) else M.bad) (lcK g c el (wipeR ρ vs) (ds.drop (i + 1)) acc), _, rel2, rv, nb, eq, fun ρ3 as3 τ3 σ3 H3 x3 r3 of3 e3 => ⟨off_wipe of3 hsl, htt _ _ _ ?_⟩⟩
      obtain ⟨b, τ4, e4, e5⟩ := noX_ok (R := fun _ _ _ (_ : Unit) => True) nb e3
      refine ⟨ρ3, as3, τ3, r3, ?_⟩
      rw [e4]
      intro b' as4 H4 x4 w4 eb
      cases (show b = b' from eb)
      have x24 : Ext as' H' as4 H4 := (x2.trans x3).trans x4
      have D4 : H4 D = some (.lst accV) := by rw [x24.hk D Dh]; exact hDl
      have ra4 : Reps Γ.K as4 (Pu as4 H4) acc accV := Reps.ext ra x24
      have hid4 : as4.hid = D :: as.hid := x24.hid.trans hid
      have pre4 : as.as <+: as4.as := pre.trans x24.pre
      have sm4 : Same (Pu as H1) (Pu as4 H4) := sm.trans x24.same
      have hk4 : ∀ b ∈ as.hid, H4 b = H1 b := fun b hb => (x24.hk b (by rw [hid]; exact List.mem_cons_of_mem _ hb)).trans (hk b hb)
      cases b with
      | false =>
        rw [if_neg Bool.false_ne_true]
        exact ⟨as4, τ4, accV, acc, pre4, hid4, sm4, hk4, w4, D4, ra4, e5⟩
      | true =>
        rw [if_pos rfl]
        obtain ⟨y, τ5, e6, e7⟩ := noX_ok (R := fun _ _ _ (_ : Unit) => True) nb e5
        refine ⟨ρ3, as4, τ4, r3.ext x4 w4, ?_⟩
        rw [e6]
        intro vy as5 H5 x5 w5 ry
        have D5 : H5 D = some (.lst accV) := by rw [x5.hk D (by rw [hid4]; exact List.mem_cons_self)]; exact D4
        have hid5 : as5.hid = D :: as.hid := x5.hid.trans hid4
        have Dh5 : D ∈ as5.hid := by rw [hid5]; exact List.mem_cons_self
        by_cases hz : acc.length < sizeLine
        · rw [if_pos hz] at e7
          have pu : Pu as5 (upd H5 D (.lst (accV ++ [vy]))) = Pu as5 H5 := Pu_upd (List.mem_append_right _ Dh5)
          refine ⟨accV, D5, by rw [ra4.length]; exact hz, as5, τ5, accV ++ [vy], acc ++ [y], pre4.trans x5.pre, hid5, by rw [pu]; exact sm4.trans x5.same, fun b hb => ?_, w5.grow Dh5 D5, upd_same, by rw [pu]; exact (Reps.ext ra4 x5).append (Reps.cons ry Reps.nil), e7⟩
          have nb : b ≠ D := fun z => by
            have nd := w5.nd
            rw [hid5] at nd
            simp only [List.nodup_append, List.nodup_cons] at nd
            exact nd.2.1.1 (z ▸ hb)
          rw [upd_ne nb]
          exact (x5.hk b (by rw [hid4]; exact List.mem_cons_of_mem _ hb)).trans (hk4 b hb)
        · rw [if_neg hz] at e7
          exact absurd e7.symm nb
theorem e_lc (hc : X.calm = true) (hN : X.N.Nodup) (hi : PI X tg iter (tI Γ W mi)) (ok : BlkOk X.N X.env.scope scope own) (hsl : ∀ i ∈ sl, i ∈ own.map (·.2))
    (hg : AtBlk X scope fun X' => PG X' tg (tGr Γ sl g)) (ht : AtBlk X scope fun X' => PTs X' ifs tt) (htt : ∀ σ H Q, tT Γ W0 c σ H Q → tt σ H Q)
    (he : AtBlk X scope fun X' => PE X' elt (tE Γ W0 el)) (hs : ∀ x, foldedSetIterable iter X.env x = pure x) : PE X (.ListComp elt [⟨tg, iter, ifs, 0⟩] scope pos) (tE Γ W (lcE mi g c el (own.map (·.2)))) :=
  PE.imp (pe_lc hc hN hi ok hg ht he hs) fun σ H Q h => lc_read (m := el) hsl htt h
theorem tts_nil : ∀ (σ : L2.St) H Q, tT Γ W0 yesT σ H Q → tYes σ H Q := fun σ H Q h => by
  obtain ⟨ρ, as, τ, r, h⟩ := h
  exact Fin.pure (τ := τ) (y := true) h r.wr rfl
/-- name = [..] -/
theorem s_setLc {E : XK} {i : Nat} {y : Str} {py spos : Pos} (hc : X.calm = true) (hN : X.N.Nodup) (hy : X.N[i]? = some y) (hyl : X.env.scope.names.lookup y = some .local)
    (hsw : swapsWith (.ListComp elt [⟨tg, iter, ifs, 0⟩] scope pos) (some (.Name y py)) spos.line X.env = pure true) (hi : PI X tg iter (tI Γ (WE0 E) mi)) (ok : BlkOk X.N X.env.scope scope own) (hsl : ∀ i ∈ sl, i ∈ own.map (·.2))
    (hg : AtBlk X scope fun X' => PG X' tg (tGr Γ sl g)) (ht : AtBlk X scope fun X' => PTs X' ifs tt) (htt : ∀ σ H Q, tT Γ W0 c σ H Q → tt σ H Q)
    (he : AtBlk X scope fun X' => PE X' elt (tE Γ W0 el)) (hs : ∀ x, foldedSetIterable iter X.env x = pure x) : PS X (.Assign [.Name y py] (.ListComp elt [⟨tg, iter, ifs, 0⟩] scope pos) spos) (tS Γ E (asgS (lcE mi g c el (own.map (·.2))) (nameG i))) := by
  refine PS.imp (ps_setLc hc hN hy hyl hsw hi ok hg ht he hs) fun D σ H h => ?_
  obtain ⟨ρ, as, τ, nx, bk, ct, r, h⟩ := h
  refine lc_read (m := el) (W := WE0 E) hsl htt (tG_of r ?_)
  refine (EndsR.bind (f := fun d => nameG i d nx ρ) h).imp fun v H1 ⟨as1, τ1, d, x, w, rv, q, _⟩ => ?_
  exact q.nx _ as1 τ1 _ H1 Ext.refl ⟨(r.ext x w).env.set i rv, w⟩ rfl
end

/-! ### stores side by side; a place of a list -/
def par2S (a b : Rho → M D) (i j : Nat) : SK := fun nx _ _ ρ => M.bind (a ρ) fun x => M.bind (b ρ) fun y => nx ((ρ.set i (some x)).set j (some y))
def par3S (a b c : Rho → M D) (i j l : Nat) : SK := fun nx _ _ ρ => M.bind (a ρ) fun x => M.bind (b ρ) fun y => M.bind (c ρ) fun z => nx (((ρ.set i (some x)).set j (some y)).set l (some z))
def setM (o k d : D) : M Unit := fun τ => match o, k with
  | .loc n, .int k => match τ[n]? with
    | some (.lst ds) => match ixN ds.length k with
      | some j => .ok () (τ.set n (.lst (ds.set j d)))
      | none => .bad
    | _ => .bad
  | _, _ => .bad
def subG (mo mk : Rho → M D) : GK := fun d nx ρ => M.bind (noX (mo ρ)) fun o => M.bind (noX (mk ρ)) fun k => M.bind (setM o k d) fun _ => nx ρ
section
variable {Γ : Gx} {X : Cx} {E : XK} {a b c o i : Expr} {ma mb mc mo mi : Rho → M D} {pos : Pos}
theorem s_par2 (hc : X.calm = true) {i j : Nat} {x y : Str} {px py pt : Pos} {kt k2 pt2} (hN : X.N.Nodup) (hi : X.N[i]? = some x) (hj : X.N[j]? = some y) (hij : i ≠ j)
    (hx : X.env.scope.names.lookup x = some .local) (hy : X.env.scope.names.lookup y = some .local) (ha : PA X [a, b] (tA Γ (WE0 E) (argsE [.one ma, .one mb])))
    (hw : swappedStores [.Tuple [.Name x px, .Name y py] kt pt] (.Tuple [a, b] k2 pt2) X.env = pure (some [x, y]))
    (hs : swapsWithSole [.Tuple [.Name x px, .Name y py] kt pt] (.Tuple [a, b] k2 pt2) pos.line X.env = pure false) :
    PS X (.Assign [.Tuple [.Name x px, .Name y py] kt pt] (.Tuple [a, b] k2 pt2) pos) (tS Γ E (par2S ma mb i j)) := by
  refine PS.imp (ps_par hc hN hi hj hij hx hy ha hw hs) fun D σ H h => ?_
  obtain ⟨ρ, as, τ, nx, bk, ct, r, h⟩ := h
  have h : EndsR Γ E D nx bk ct (M.bind (argsE [.one ma, .one mb] ρ) (fun ds => match ds with | [p, q] => nx ((ρ.set i (some p)).set j (some q)) | _ => M.bad) τ) as H := by
    have e : M.bind (argsE [.one ma, .one mb] ρ) (fun ds => match ds with | [p, q] => nx ((ρ.set i (some p)).set j (some q)) | _ => M.bad) τ = par2S ma mb i j nx bk ct ρ τ := by
      show M.bind (M.bind (ma ρ) fun x => M.bind (M.bind (mb ρ) fun x => M.bind (M.pure []) fun xs => M.pure (x :: xs)) fun xs => M.pure (x :: xs)) _ τ = M.bind (ma ρ) (fun x => M.bind (mb ρ) fun y => nx ((ρ.set i (some x)).set j (some y))) τ
      simp only [M.bind_assoc, M.pure_bind]
    rw [e]
    exact h
  refine tG_of r (h.bind.imp fun vs H1 ⟨as1, τ1, ds, x, w, rv, q, _⟩ => ?_)
  match ds, rv, q with
  | [], rv, q => exact q.rt.elim
  | [_], rv, q => exact q.rt.elim
  | [p, q'], rv, q =>
    obtain ⟨v, w', rfl, r1, r2⟩ := Reps.two rv
    exact ⟨v, w', rfl, q.nx _ as1 τ1 _ H1 Ext.refl ⟨((r.ext x w).env.set i r1).set j r2, w⟩ rfl⟩
  | _ :: _ :: _ :: _, rv, q => exact q.rt.elim
theorem s_par3 (hc : X.calm = true) {i j l : Nat} {x y z : Str} {px py pz pt : Pos} {kt k2 pt2} (hN : X.N.Nodup) (hi : X.N[i]? = some x) (hj : X.N[j]? = some y) (hl : X.N[l]? = some z) (hij : i ≠ j) (hil : i ≠ l) (hjl : j ≠ l)
    (hx : X.env.scope.names.lookup x = some .local) (hy : X.env.scope.names.lookup y = some .local) (hz : X.env.scope.names.lookup z = some .local) (ha : PA X [a, b, c] (tA Γ (WE0 E) (argsE [.one ma, .one mb, .one mc])))
    (hw : swappedStores [.Tuple [.Name x px, .Name y py, .Name z pz] kt pt] (.Tuple [a, b, c] k2 pt2) X.env = pure (some [x, y, z]))
    (hs : swapsWithSole [.Tuple [.Name x px, .Name y py, .Name z pz] kt pt] (.Tuple [a, b, c] k2 pt2) pos.line X.env = pure false) :
    PS X (.Assign [.Tuple [.Name x px, .Name y py, .Name z pz] kt pt] (.Tuple [a, b, c] k2 pt2) pos) (tS Γ E (par3S ma mb mc i j l)) := by
  refine PS.imp (ps_par3 hc hN hi hj hl hij hil hjl hx hy hz ha hw hs) fun D σ H h => ?_
  obtain ⟨ρ, as, τ, nx, bk, ct, r, h⟩ := h
  have h : EndsR Γ E D nx bk ct (M.bind (argsE [.one ma, .one mb, .one mc] ρ) (fun ds => match ds with | [p, q, t] => nx (((ρ.set i (some p)).set j (some q)).set l (some t)) | _ => M.bad) τ) as H := by
    have e : M.bind (argsE [.one ma, .one mb, .one mc] ρ) (fun ds => match ds with | [p, q, t] => nx (((ρ.set i (some p)).set j (some q)).set l (some t)) | _ => M.bad) τ = par3S ma mb mc i j l nx bk ct ρ τ := by
      show M.bind (M.bind (ma ρ) fun x => M.bind (M.bind (mb ρ) fun x => M.bind (M.bind (mc ρ) fun x => M.bind (M.pure []) fun xs => M.pure (x :: xs)) fun xs => M.pure (x :: xs)) fun xs => M.pure (x :: xs)) _ τ = M.bind (ma ρ) (fun x => M.bind (mb ρ) fun y => M.bind (mc ρ) fun z => nx (((ρ.set i (some x)).set j (some y)).set l (some z))) τ
      simp only [M.bind_assoc, M.pure_bind]
    rw [e]
    exact h
  refine tG_of r (h.bind.imp fun vs H1 ⟨as1, τ1, ds, x, w, rv, q, _⟩ => ?_)
  match ds, rv, q with
  | [], rv, q => exact q.rt.elim
  | [_], rv, q => exact q.rt.elim
  | [_, _], rv, q => exact q.rt.elim
  | [p, q', t], rv, q =>
    obtain ⟨v1, vr, rfl, r1, rr⟩ := rv
    obtain ⟨v2, v3, rfl, r2, r3⟩ := Reps.two rr
    exact ⟨v1, v2, v3, rfl, q.nx _ as1 τ1 _ H1 Ext.refl ⟨(((r.ext x w).env.set i r1).set j r2).set l r3, w⟩ rfl⟩
  | _ :: _ :: _ :: _ :: _, rv, q => exact q.rt.elim
theorem g_sub {W : WX} {sl : List Nat} (ho : PE X o (tE Γ W mo)) (hi : PE X i (tE Γ W mi))
    (ha : ∀ v, assign (.Subscript o i pos) X.env v = (do
      let ov ← holding [v] (eval o X.env)
      let iv ← holding [v, ov] (eval i X.env)
      standAt pos
      holding [v, ov, iv] (setItem ov iv v)
      release [v, ov, iv] [])) : PG X (.Subscript o i pos) (tGr Γ sl (subG mo mi)) := by
  refine PG.imp (pg_sub ho hi set_list ha) fun v σ H Q h => ?_
  obtain ⟨ρ, as, τ, d, nx, r, rel, rd, nb, e, k⟩ := h
  obtain ⟨x, τ1, e1, e2⟩ := noX_ok (R := fun _ _ _ (_ : Unit) => True) nb e
  refine ⟨ρ, as, τ, rel, ?_⟩
  rw [e1]
  intro vx as1 H1 x1 w1 rx
  obtain ⟨y, τ2, e3, e4⟩ := noX_ok (R := fun _ _ _ (_ : Unit) => True) nb e2
  refine ⟨ρ, as1, τ1, rel.ext x1 w1, ?_⟩
  rw [e3]
  intro vy as2 H2 x2 w2 ry
  have rx2 := Rep.ext rx x2
  clear e e1 e2 e3
  revert e4
  cases x <;> first | (intro e4; exact absurd e4.symm nb) | skip
  cases y <;> first | (intro e4; exact absurd e4.symm nb) | skip
  rename_i n kk
  intro e4
  have e4 : M.bind (setM (.loc n) (.int kk) d) (fun _ => nx ρ) τ2 = r := e4
  have q : setM (.loc n) (.int kk) d τ2 = (match τ2[n]? with
    | some (.lst ds) => match ixN ds.length kk with
      | some j => .ok () (τ2.set n (.lst (ds.set j d)))
      | none => .bad
    | _ => .bad) := rfl
  cases hn : τ2[n]? with
  | none => rw [hn] at q; rw [M.bind_bad' q] at e4; exact absurd e4.symm nb
  | some so =>
    cases so with
    | ins C fs => rw [hn] at q; rw [M.bind_bad' q] at e4; exact absurd e4.symm nb
    | dct kvs => rw [hn] at q; rw [M.bind_bad' q] at e4; exact absurd e4.symm nb
    | lst ds =>
      cases hj : ixN ds.length kk with
      | none => rw [hn] at q; simp only [hj] at q; rw [M.bind_bad' q] at e4; exact absurd e4.symm nb
      | some j =>
        rw [hn] at q
        simp only [hj] at q
        rw [M.bind_ok q] at e4
        obtain ⟨p, hp, rfl⟩ := rx2
        cases (show vy = _ from ry)
        obtain ⟨xs, hH, rs⟩ := w2.ob n _ p hn hp
        have rd2 : RD Γ as2 H2 d v := Rep.ext rd (x1.trans x2)
        have pu : Pu as2 (upd H2 p (.lst (xs.set j v))) = Pu as2 H2 := Pu_upd (List.mem_append_left _ (List.mem_of_getElem? hp))
        obtain ⟨w3, x3⟩ := w2.put (o' := .lst (xs.set j v)) (so' := .lst (ds.set j d)) hp hn ⟨xs.set j v, upd_same, by rw [pu]; exact rs.set j rd2⟩
        refine ⟨p, xs, kk, j, rfl, rfl, hH, by rw [rs.length]; exact hj, ?_⟩
        exact k ρ as2 _ σ _ ((x1.trans x2).trans x3) (rel.ext ((x1.trans x2).trans x3) w3) Off.refl e4
end
end Rx
end
section
set_option maxRecDepth 100000
set_option maxHeartbeats 4000000
/-! RxH: the calls of defs: by position, by name, of nothing. -/
namespace Rx
open PySem PySem.Spec PyProof.Rows L2

/-- a def that may be called: its parameters; how calls with names bind: many by position, the names, the places (of both, one behind the other) of the parameters; its mirror -/
structure Callee where
  ps : List Str
  pats : List (Nat × List Str × List Nat)
  m : List D → M D
def pickL {α : Type} : List Nat → List α → List α
  | [], _ => []
  | i :: is, ws => match ws[i]? with
    | some w => w :: pickL is ws
    | none => pickL is ws
theorem pick_vals {xs : List V} {us : List Value} (r : Vals xs us) : ∀ is : List Nat, Vals (pickL is xs) (pickL is us)
  | [] => .nil
  | i :: is => by
    unfold pickL
    cases e : xs[i]? with
    | none => rw [Vals.none_of r e]; exact pick_vals r is
    | some x =>
      obtain ⟨u, e2, ru⟩ := Vals.get r e
      rw [e2]
      exact .cons ru (pick_vals r is)
theorem pick_reps {K : PySem.W.Frag} {as : Ads} {G : Hp} {ds : List D} {xs : List V} (r : Reps K as G ds xs) : ∀ is : List Nat, Reps K as G (pickL is ds) (pickL is xs)
  | [] => rfl
  | i :: is => by
    unfold pickL
    cases e : ds[i]? with
    | none =>
      have e2 : xs[i]? = none := List.getElem?_eq_none (by rw [r.length]; exact List.getElem?_eq_none_iff.mp e)
      rw [e2]
      exact pick_reps r is
    | some d =>
      obtain ⟨x, e2, rx⟩ := r.get e
      rw [e2]
      exact Reps.cons rx (pick_reps r is)
/-- a def of the text, and how it may be called -/
structure FnC (Γ : Gx) (k : Nat) (x : Str) (cl : Callee) : Prop where
  ex : ∃ (f : Addr) (fd : FuncData), FnOk Γ.prog Γ.w Γ.K Γ.mg Γ.base (L2.CX Γ.prog Γ.w) k f fd cl.ps (spM Γ cl.ps.length cl.m) ∧ Γ.mg x = some (.ref f) ∧ PySem.W.keepIn Γ.K (.ref f) = true ∧ Binds Γ.K fd cl.ps [] ∧
    ∀ p ∈ cl.pats, KBn Γ.K fd cl.ps p.1 p.2.1 (fun us ws => pickL p.2.2 (us ++ ws)) (fun vs zs => pickL p.2.2 (vs ++ zs))
theorem FnC.mono {Γ : Gx} {j k : Nat} {x : Str} {cl : Callee} (F : FnC Γ j x cl) (h : j ≤ k) : FnC Γ k x cl := by
  obtain ⟨f, fd, h1, h2⟩ := F.ex
  exact ⟨f, fd, h1.mono h, h2⟩
theorem FnC.eq {Γ : Gx} {k : Nat} {x : Str} {ps : List Str} {pats : List (Nat × List Str × List Nat)} {m m' : List D → M D} (F : FnC Γ k x ⟨ps, pats, m⟩) (h : ∀ ds, ds.length = ps.length → m ds = m' ds) : FnC Γ k x ⟨ps, pats, m'⟩ := by
  obtain ⟨f, fd, h1, h2⟩ := F.ex
  refine ⟨f, fd, h1.imp fun vs H Q E q => ?_, h2⟩
  obtain ⟨ds, as, τ, a, b, c, d⟩ := q
  refine ⟨ds, as, τ, a, b, c, ?_⟩
  have e := h ds (by rw [← b.length]; exact a)
  show Fin _ _ _ _ _ _ (m ds τ) _
  rw [e]
  exact d
theorem kbn_of {K : PySem.W.Frag} {x qual : Str} {st : Stmt} {f : Addr} {fd : FuncData} {ps ks : List Str} {n : Nat} {is : List Nat} (F : Fun K x qual st f fd)
    (h : ∀ (kV doc pm : Value) (an : Option Addr) (cdv ct : Value) (us ws : List Value), us.length = n → ws.length = ks.length → bindArgs (PySem.W.fnOf x qual (defArgs st) (defBody st) (defScope st) .none kV doc pm an cdv ct) ⟨us, ks.zip ws⟩ = pure (ps.zip (pickL is (us ++ ws)))) :
    KBn K fd ps n ks (fun us ws => pickL is (us ++ ws)) (fun vs zs => pickL is (vs ++ zs)) := by
  obtain ⟨oc, od, kV, doc, pm, an, cdv, ct, osl, rfl, lk, hcd⟩ := F.ex
  exact ⟨fun s us ws _ l1 l2 => .of_eq (h kV doc pm an cdv ct us ws l1 l2), fun r1 r2 => pick_vals (r1.append r2) _⟩

section
variable {Γ : Gx} {X : Cx} {W : WX} {e : Expr} {es : List Expr} {ms ks' : List Arg1} {x : Str} {p pos : Pos} {k n : Nat} {cl : Callee} {kws : List Keyword} {ks : List Str} {is : List Nat}
theorem e_callC (C : CxR Γ X W) (F : FnC Γ k x cl) (hr : Room k X.A) (hg : Gl X x) (ha : PA X (e :: es) (tA Γ W (argsE ms))) (hl : ∀ ρ τ ds τ', argsE ms ρ τ = .ok ds τ' → ds.length = cl.ps.length) (hdb : (x == ("__debug__" : Str)) = false)
    (he : starEach (e :: es) X.env = (false, eval e X.env) :: starEach es X.env) (hpl : (backTo pos (starEach es X.env)).any (·.1) = false) : PE X (.Call (.Name x p) (e :: es) [] pos) (tE Γ W (callF cl.m ms)) := by
  obtain ⟨f, fd, h1, h2, h3, h4, _⟩ := F.ex
  exact e_call C ⟨f, fd, cl.ps, h1, h2, h3, h4, rfl⟩ hr hg ha hl hdb he hpl
/-- f() -/
theorem e_callC0 (C : CxR Γ X W) (F : FnC Γ k x cl) (hr : Room k X.A) (hg : Gl X x) (h0 : cl.ps = []) (hdb : (x == ("__debug__" : Str)) = false) : PE X (.Call (.Name x p) [] [] pos) (tE Γ W fun _ => cl.m []) := by
  obtain ⟨f, fd, h1, h2, h3, h4, _⟩ := F.ex
  have h1' : FnOk X.prog X.w X.K X.mg X.base (L2.CX X.prog X.w) k f fd cl.ps (spM Γ cl.ps.length cl.m) := by rw [C.prog, C.w, C.K, C.mg, C.base]; exact h1
  refine ⟨fun pins s σ H Q I h => ?_⟩
  refine wpAny_Call_Name_kw (ld_glob I hg (by rw [C.mg]; exact h2) ?_ hdb)
  refine PySem.W.callWith_K0 I.kIn (by rw [C.K]; exact h3) (run_fnS (E := fun σ => WE W σ) (us := []) (vs := []) h1' hr (by rw [C.K]; exact h4) (passAt C.tk σ) I .nil ?_)
  obtain ⟨ρ, as, τ, r, h⟩ := h
  exact ⟨[], as, τ, by rw [h0]; rfl, rfl, r.wr, Fin.wish h fun _ _ _ z => z⟩
/-- by name: positional ones ahead -/
def callKF (m : List D → M D) (is : List Nat) (ms ks' : List Arg1) (ρ : Rho) : M D := M.bind (argsE ms ρ) fun us => M.bind (argsE ks' ρ) fun ws => m (pickL is (us ++ ws))
theorem run_fnSN {pins : List (Addr × Obj)} {H : Hp} {s : Shared} {Q : VK} {us ws : List Value} {vs zs : List V} {CX : CXT} {f : Addr} {fd : FuncData} {ps : List Str} {sp : Sp} {g : List Value → List Value → List Value} {gV : List V → List V → List V} {σ : L2.St} {E : L2.St → XK}
    (F : FnOk X.prog X.w X.K X.mg X.base CX k f fd ps sp) (hr : Room k X.A) (hb : KBn X.K fd ps n ks g gV) (hx : PassesAt CX X σ (E σ))
    (I : Inv X pins σ H s) (r : Vals vs us) (rz : Vals zs ws) (l1 : vs.length = n) (l2 : zs.length = ks.length) (h : sp (gV vs zs) H Q (E σ)) : wpAny (model X.prog X.w) X.A (call (.ref f) us (ks.zip ws)) (EP X pins σ Q) X.xe s := by
  have r2 := hb.rel r rz
  refine wpAny_call (codeAny_mono (F.run X.A X.stack s H ⟨us, ks.zip ws⟩ (g us ws) (gV vs zs) Q (E σ) hr I.env0 (hb.to s us ws I.kIn (r.length.symm.trans l1) (rz.length.symm.trans l2)) r2 h) fun r s' hq => ?_)
  cases r with
  | error e => exact hx pins H s e s' I hq
  | ok fl =>
    cases fl with
    | ret u => exact I.after hq
    | next => exact False.elim hq
    | brk => exact False.elim hq
    | cont => exact False.elim hq
theorem callK_read {σ : L2.St} {H : Hp} {Q : VK} {m : List D → M D} {N : Nat} (h : tE Γ W (callKF m is ms ks') σ H Q) (l1 : ∀ ρ τ ds τ', argsE ms ρ τ = .ok ds τ' → ds.length = n) (l2 : ∀ ρ τ ds τ', argsE ks' ρ τ = .ok ds τ' → ds.length = ks.length)
    (hN : ∀ us ws : List V, us.length = n → ws.length = ks.length → (pickL is (us ++ ws)).length = N) :
    tA Γ W (argsE ms) σ H fun vs H1 => tA Γ W (argsE ks') σ H1 fun zs H2 => vs.length = n ∧ zs.length = ks.length ∧ spM Γ N m (pickL is (vs ++ zs)) H2 Q (WE W σ) := by
  obtain ⟨ρ, as, τ, r, h⟩ := h
  have h : Fin Γ (RD Γ) W σ as H (M.bind (argsE ms ρ) (fun us => M.bind (argsE ks' ρ) fun ws => m (pickL is (us ++ ws))) τ) Q := h
  refine tG_of r ?_
  rcases fin_walk h with ⟨us, τ1, q1, h⟩ | ⟨c, τ1, q1, h⟩
  · rw [q1]
    intro vs as1 H1 x1 w1 r1
    have h := Fin.ext h x1
    refine tG_of (r.ext x1 w1) ?_
    rcases fin_walk h with ⟨ws, τ2, q2, h⟩ | ⟨c, τ2, q2, h⟩
    · rw [q2]
      intro zs as2 H2 x2 w2 r2
      have lu : vs.length = n := by rw [(show Reps _ _ _ _ _ from r1).length]; exact l1 _ _ _ _ q1
      have lw : zs.length = ks.length := by rw [(show Reps _ _ _ _ _ from r2).length]; exact l2 _ _ _ _ q2
      exact ⟨lu, lw, _, as2, τ2, hN _ _ lu lw, pick_reps ((Reps.ext r1 x2).append r2) is, w2, Fin.wish (Fin.ext h x2) fun _ _ _ z => z⟩
    · rw [q2]
      exact h _ _ _ _
  · rw [q1]
    exact h _ _ _ _
theorem pick_len : ∀ {α : Type} (is : List Nat) (xs : List α), (∀ i ∈ is, i < xs.length) → (pickL is xs).length = is.length
  | _, [], _, _ => rfl
  | α, i :: is, xs, h => by
    unfold pickL
    rw [List.getElem?_eq_getElem (h i List.mem_cons_self)]
    show (pickL is xs).length + 1 = _
    rw [pick_len is xs fun j hj => h j (List.mem_cons_of_mem _ hj)]
    rfl
theorem e_callCK (C : CxR Γ X W) (F : FnC Γ k x cl) (hp : (n, ks, is) ∈ cl.pats) (hr : Room k X.A) (hg : Gl X x) (ha : PA X (e :: es) (tA Γ W (argsE ms))) (hkw : PK X kws (tA Γ W (argsE ks')))
    (l1 : ∀ ρ τ ds τ', argsE ms ρ τ = .ok ds τ' → ds.length = n) (l2 : ∀ ρ τ ds τ', argsE ks' ρ τ = .ok ds τ' → ds.length = ks.length) (his : ∀ i ∈ is, i < n + ks.length) (hil : is.length = cl.ps.length)
    (hall : (backToKw pos (keywordEach kws X.env)).all (·.1.isSome) = true) (hks : (backToKw pos (keywordEach kws X.env)).filterMap (·.1) = ks) (hdb : (x == ("__debug__" : Str)) = false)
    (he : starEach (e :: es) X.env = (false, eval e X.env) :: starEach es X.env)
    (hpl : ((backTo pos (starEach (e :: es) X.env)).any (·.1) || (backToKw pos (keywordEach kws X.env)).any (·.1.isNone)) = false) : PE X (.Call (.Name x p) (e :: es) kws pos) (tE Γ W (callKF cl.m is ms ks')) := by
  obtain ⟨f, fd, h1, h2, h3, h4, h5⟩ := F.ex
  have h1' : FnOk X.prog X.w X.K X.mg X.base (L2.CX X.prog X.w) k f fd cl.ps (spM Γ cl.ps.length cl.m) := by rw [C.prog, C.w, C.K, C.mg, C.base]; exact h1
  refine ⟨fun pins s σ H Q I h => ?_⟩
  have h := callK_read (n := n) (ks := ks) (N := cl.ps.length) h l1 l2 fun us ws e1 e2 => by rw [pick_len _ _ (fun i hi => by rw [List.length_append, e1, e2]; exact his i hi)]; exact hil
  refine wpAny_Call_Name_kw (ld_glob I hg (by rw [C.mg]; exact h2) ?_ hdb)
  refine PySem.W.callWith_KW (h₀ := X.base) I.ok.mod.kin (by rw [C.K]; exact h3) hall (thn (ha.run pos pins s σ H _ I h) fun us s1 ⟨vs, H1, I1, r, q⟩ => ?_) hpl he
  refine thn (hkw.run pos pins s1 σ H1 _ I1 q) fun ws s2 ⟨zs, H2, I2, rz, l1, l2, q2⟩ => ⟨I2.kIn, ?_⟩
  rw [hks]
  exact run_fnSN (E := fun σ => WE W σ) h1' hr (by rw [C.K]; exact h5 _ hp) (passAt C.tk σ) I2 r rz l1 l2 q2
theorem e_callCK0 (C : CxR Γ X W) (F : FnC Γ k x cl) (hp : (0, ks, is) ∈ cl.pats) (hr : Room k X.A) (hg : Gl X x) (hkw : PK X kws (tA Γ W (argsE ks')))
    (l2 : ∀ ρ τ ds τ', argsE ks' ρ τ = .ok ds τ' → ds.length = ks.length) (his : ∀ i ∈ is, i < 0 + ks.length) (hil : is.length = cl.ps.length)
    (hall : (backToKw pos (keywordEach kws X.env)).all (·.1.isSome) = true) (hks : (backToKw pos (keywordEach kws X.env)).filterMap (·.1) = ks) (hdb : (x == ("__debug__" : Str)) = false)
    (hpl : ((backTo pos (starEach [] X.env)).any (·.1) || (backToKw pos (keywordEach kws X.env)).any (·.1.isNone)) = false) : PE X (.Call (.Name x p) [] kws pos) (tE Γ W (callKF cl.m is [] ks')) := by
  obtain ⟨f, fd, h1, h2, h3, h4, h5⟩ := F.ex
  have h1' : FnOk X.prog X.w X.K X.mg X.base (L2.CX X.prog X.w) k f fd cl.ps (spM Γ cl.ps.length cl.m) := by rw [C.prog, C.w, C.K, C.mg, C.base]; exact h1
  refine ⟨fun pins s σ H Q I h => ?_⟩
  have h := callK_read (n := 0) (ks := ks) (N := cl.ps.length) h (fun ρ τ ds τ' e => by cases e; rfl) l2 fun us ws e1 e2 => by rw [pick_len _ _ (fun i hi => by rw [List.length_append, e1, e2]; exact his i hi)]; exact hil
  refine wpAny_Call_Name_kw (ld_glob I hg (by rw [C.mg]; exact h2) ?_ hdb)
  have hh : tA Γ W (argsE ks') σ H fun zs H2 => ([] : List V).length = 0 ∧ zs.length = ks.length ∧ spM Γ cl.ps.length cl.m (pickL is ([] ++ zs)) H2 Q (WE W σ) := by
    obtain ⟨ρ, as, τ, r, h⟩ := h
    exact h [] as H Ext.refl r.wr rfl
  refine PySem.W.callWith_KW0 (h₀ := X.base) I.ok.mod.kin (by rw [C.K]; exact h3) hall (thn (hkw.run pos pins s σ H _ I hh) fun ws s2 ⟨zs, H2, I2, rz, l1, l2, q2⟩ => ⟨I2.kIn, ?_⟩) hpl
  rw [hks]
  exact run_fnSN (E := fun σ => WE W σ) h1' hr (by rw [C.K]; exact h5 _ hp) (passAt C.tk σ) I2 .nil rz l1 l2 q2
end
end Rx
end
section
set_option maxRecDepth 100000
set_option maxHeartbeats 4000000
/-! RxI: what a text means in the mirror: den, level by level. -/
namespace Rx
open PySem PySem.Spec PyProof.Rows L2

/-- what a name of a block may mean: N, sc the names, fn the cells that a store may meet, fns the defs, gvs the top's values, lo the rows whose lists are things of the store, wf the turns of a while, lam: whether lambdas may be made here, lv: how deep closures may call closures -/
structure Den where
  N : List Str
  sc : Scope
  fn : Str → Bool
  fns : List (Str × Callee)
  gvs : List (Str × D)
  lo : List Nat
  wf : Nat
  lam : Bool
  lv : Nat
structure Sem where
  e : Den → Expr → Rho → M D
  t : Den → Expr → Rho → M Bool
  i : Den → Expr → Expr → Rho → M (List D)
  g : Den → Expr → GK
  gs : Den → Expr → List Nat
  s : Den → Stmt → SK
def badE {α : Type} : Rho → M α := fun _ => M.bad
def ixOf (x : Str) : List Str → Option Nat
  | [] => none
  | y :: ys => if y = x then some 0 else (ixOf x ys).map (· + 1)
theorem ixOf_get {x : Str} : ∀ {N : List Str} {i : Nat}, ixOf x N = some i → N[i]? = some x
  | [], i, h => by cases h
  | y :: ys, i, h => by
    unfold ixOf at h
    split at h
    · rename_i e
      cases h
      simp [e]
    · obtain ⟨j, h1, rfl⟩ := Option.map_eq_some_iff.mp h
      simpa using ixOf_get h1
def plainName (x : Str) : Bool := !(x == ("__debug__" : Str)) && !(x == ("__classdict__" : Str))
def isLocal : Option NameKind → Bool
  | some .local => true
  | some .cell => true
  | some .free => true
  | _ => false
def isGlobal : Option NameKind → Bool
  | some .globalImplicit => true
  | _ => false
def bltNames : List Str := ["len", "isinstance", "int", "str", "abs", "max", "min", "sum", "all", "any", "sorted", "tuple", "list", "divmod", "enumerate", "zip", "range", "bool", "ValueError", "LookupError", "KeyError"]
def tyOf (x : Str) : Option String := if x ∈ bltNames then (match bootBuiltins x with
  | some (.type T) => some T
  | _ => none) else none
def Den.glob (c : Den) (x : Str) : Bool := isGlobal (c.sc.names.lookup x)
def nameD (c : Den) (x : Str) : Rho → M D :=
  if plainName x then
    if isLocal (c.sc.names.lookup x) then match ixOf x c.N with
      | some i => fun ρ => getS ρ i
      | none => badE
    else if c.glob x then match c.gvs.lookup x with
      | some d => fun _ => M.pure d
      | none => match tyOf x with
        | some T => fun _ => M.pure (.ty T)
        | none => badE
    else badE
  else badE
def isStar : Expr → Bool
  | .Starred .. => true
  | _ => false
def isComp : Expr → Bool
  | .ListComp .. => true
  | .SetComp .. => true
  | .DictComp .. => true
  | _ => false
def isSlice : Expr → Bool
  | .Slice .. => true
  | _ => false
def isSet : Expr → Bool
  | .Set .. => true
  | _ => false
def noStar (es : List Expr) : Bool := es.all fun e => !isStar e
def argD (S : Sem) (c : Den) : Expr → Arg1
  | .Starred e _ => .star (S.e c e)
  | e => .one (S.e c e)
def argsD (S : Sem) (c : Den) (es : List Expr) : List Arg1 := es.map (argD S c)
def kwsD (S : Sem) (c : Den) (ks : List Keyword) : List Arg1 := ks.map fun k => .one (S.e c k.value)
def andsT : List (Rho → M Bool) → Rho → M Bool
  | [] => badE
  | [m] => m
  | m :: r => andT m (andsT r)
def orsT : List (Rho → M Bool) → Rho → M Bool
  | [] => badE
  | [m] => m
  | m :: r => orT m (orsT r)
def andsE : List (Rho → M D) → Rho → M D
  | [] => badE
  | [m] => m
  | m :: r => andE m (andsE r)
def orsE : List (Rho → M D) → Rho → M D
  | [] => badE
  | [m] => m
  | m :: r => orE m (orsE r)
/-- the built-in functions -/
def bltD (x : Str) : Option (List D → Sto → Option D) :=
  if x = "len" then some lenV else if x = "isinstance" then some isiV else if x = "int" then some intV else if x = "str" then some strV else if x = "abs" then some absV
  else if x = "max" then some maxV else if x = "min" then some minV else if x = "sum" then some sumV else if x = "all" then some allV else if x = "any" then some anyV
  else if x = "sorted" then some sortedV else if x = "tuple" then some tupleV else if x = "list" then some listV else if x = "divmod" then some divmodV else none
/-- a closure is called -/
def applyD (S : Sem) (c : Den) : D → List D → M D
  | .clo (.Lambda params body scope _) caps, ds => match c.lv, plainPs params with
    | l + 1, some ps => if caps.length == 0 && ds.length == ps.length && NdefX.nscB ps ps [] scope then S.e { c with N := ps, sc := scope, fn := fun _ => false, lam := false, lv := l } body (startR ps ds) else M.bad
    | _, _ => M.bad
  | _, _ => M.bad
def cloD (S : Sem) (c : Den) (x : Str) (es : List Expr) (ks : List Keyword) : Rho → M D :=
  if plainName x && isLocal (c.sc.names.lookup x) && noStar es && ks.isEmpty then match ixOf x c.N, c.lv with
    | some i, _ + 1 => cloF (applyD S c) i (argsD S c es)
    | _, _ => badE
  else badE
def callD (S : Sem) (c : Den) (x : Str) (es : List Expr) (ks : List Keyword) : Rho → M D :=
  if plainName x && c.glob x then match c.fns.lookup x with
    | some cl => if noStar es then match ks with
        | [] => if es.length = cl.ps.length then (match es with
          | [] => fun _ => cl.m []
          | _ :: _ => callF cl.m (argsD S c es)) else badE
        | _ :: _ => match cl.pats.find? (fun p => p.1 == es.length && decide (p.2.1.map some = ks.map (·.arg))) with
          | some p => if (p.2.2.all fun i => decide (i < p.1 + p.2.1.length)) && p.2.2.length == cl.ps.length then callKF cl.m p.2.2 (argsD S c es) (kwsD S c ks) else badE
          | none => badE
      else badE
    | none => match ks, es with
      | [], _ :: _ => if noStar es then match bltD x with
        | some f => callV f (argsD S c es)
        | none => badE
        else badE
      | _, _ => badE
  else cloD S c x es ks
def notSuper : Expr → Bool
  | .Call .. => false
  | _ => true
/-- the methods of built-in types -/
def mthD (m : Str) : Option (String × (D → List D → Sto → Option D)) := if m = "split" then some ("str", splitV) else if m = "join" then some ("str", joinV) else none
def methD (S : Sem) (c : Den) (o : Expr) (m : Str) (es : List Expr) (apos cpos : Pos) : Rho → M D := match es with
  | [] => badE
  | _ :: _ => if notSuper o && noStar es && decide (es.length < 29) && apos.endLine == cpos.line then match mthD m with
    | some (T, f) => methV T f (S.e c o) (argsD S c es)
    | none => badE
    else badE
def testsD (S : Sem) (c : Den) : List Expr → Rho → M Bool
  | [] => yesT
  | [e] => S.t c e
  | _ => badE
/-- a comprehension's block -/
def ownOf (N : List Str) : List (Str × NameKind) → List (Str × Nat)
  | [] => []
  | (x, k) :: r => if k = .local ∨ k = .cell then (match ixOf x N with
    | some i => (x, i) :: ownOf N r
    | none => ownOf N r) else ownOf N r
def Den.blk (c : Den) (scope : Scope) : Den := { c with sc := relS scope c.sc, fn := fun x => scope.names.lookup x == some .cell }
def lcD (S : Sem) (c : Den) (elt tg iter : Expr) (ifs : List Expr) (scope : Scope) : Rho → M D :=
  let own := ownOf c.N scope.names
  if blkC c.N c.sc scope own && !isSet iter && ((S.gs (c.blk scope) tg).all fun i => decide (i ∈ own.map (·.2))) && decide (ifs.length ≤ 1) then
    lcE (S.i c tg iter) (S.g (c.blk scope) tg) (testsD S (c.blk scope) ifs) (S.e (c.blk scope) elt) (own.map (·.2))
  else badE
def sliceD (S : Sem) (c : Den) : Option Expr → Option (Rho → M D)
  | none => none
  | some e => some (S.e c e)
def subD (S : Sem) (c : Den) (a : Expr) : Expr → Rho → M D
  | .Slice lo hi none _ => slE (S.e c a) (sliceD S c lo) (sliceD S c hi)
  | b => if isSlice b then badE else ixE (S.e c a) (S.e c b)
def stepE (S : Sem) (c : Den) : Expr → Rho → M D
  | .Constant (.int i) _ _ => fun _ => M.pure (.int i)
  | .Constant (.bool b) _ _ => fun _ => M.pure (.bl b)
  | .Constant .none _ _ => fun _ => M.pure .non
  | .Constant (.str s) _ _ => fun _ => M.pure (.str s)
  | .Name x _ => nameD c x
  | .BinOp a op b _ => binE op (S.e c a) (S.e c b)
  | .UnaryOp .USub a _ => negE (S.e c a)
  | .UnaryOp .Not a _ => notE (S.e c a)
  | .BoolOp .And vs _ => andsE (vs.map (S.e c))
  | .BoolOp .Or vs _ => orsE (vs.map (S.e c))
  | .IfExp t a b _ => ifE (S.t c t) (S.e c a) (S.e c b)
  | .Compare a [op] [b] _ => if isSet b then badE else cmpE op (S.e c a) (S.e c b)
  | .Compare a [op, op'] [b, d] _ => if isSet b || isSet d then badE else chainE op op' (S.e c a) (S.e c b) (S.e c d)
  | .Subscript a b _ => subD S c a b
  | .Tuple es _ _ => tupE (argsD S c es)
  | .List es p => if p.line ∈ c.lo then locE (argsD S c es) else lstE (argsD S c es)
  | .ListComp elt [⟨tg, iter, ifs, 0⟩] scope _ => lcD S c elt tg iter ifs scope
  | .Call (.Name x _) es ks _ => callD S c x es ks
  | .Call (.Attribute o m apos) es [] cpos => methD S c o m es apos cpos
  | .Lambda params body scope p => if c.lam && (scope.names.all fun y => !decide (y.2 = .free)) && (plainPs params).isSome then fun _ => M.pure (.clo (.Lambda params body scope p) []) else badE
  | _ => badE
def plainT : Expr → Bool
  | .UnaryOp .Not .. => false
  | .BoolOp .. => false
  | .IfExp .. => false
  | .Compare .. => false
  | _ => true
def stepT (S : Sem) (c : Den) : Expr → Rho → M Bool
  | .UnaryOp .Not a _ => notT (S.t c a)
  | .BoolOp .And vs _ => andsT (vs.map (S.t c))
  | .BoolOp .Or vs _ => orsT (vs.map (S.t c))
  | .Compare a [op] [b] _ => if isSet b then badE else cmpT op (S.e c a) (S.e c b)
  | .Compare a [op, op'] [b, d] _ => if isSet b || isSet d then badE else chainT op op' (S.e c a) (S.e c b) (S.e c d)
  | e => if plainT e then truT (S.e c e) else badE
def isTup : Expr → Bool
  | .Tuple .. => true
  | _ => false
def callI (S : Sem) (c : Den) (tg : Expr) (x : Str) (es : List Expr) (whole : Expr) : Rho → M (List D) :=
  if x = "enumerate" ∧ c.glob x ∧ c.fns.lookup x = none ∧ isTup tg = true then (match es with
    | [e] => if isStar e then badE else enumI (S.e c e)
    | _ => badE)
  else if x = "zip" ∧ c.glob x ∧ c.fns.lookup x = none ∧ isTup tg = true then (match es with
    | [e, e2] => if isStar e || isStar e2 then badE else zipI (S.e c e) (S.e c e2)
    | _ => badE)
  else if x = "range" ∧ c.glob x ∧ c.fns.lookup x = none then (match es with
    | [e] => if isStar e then badE else rng1I (S.e c e)
    | [e, e2] => if isStar e || isStar e2 then badE else rng2I (S.e c e) (S.e c e2)
    | _ => badE)
  else anyI (S.e c whole)
def stepI (S : Sem) (c : Den) (tg : Expr) : Expr → Rho → M (List D)
  | .Call (.Name x p) es [] pos => callI S c tg x es (.Call (.Name x p) es [] pos)
  | e => anyI (S.e c e)
def storeOk (c : Den) (x : Str) : Bool := match c.sc.names.lookup x with
  | some .local => true
  | some .cell => c.fn x
  | _ => false
def badG : GK := fun _ _ _ => M.bad
def stepG (S : Sem) (c : Den) : Expr → GK
  | .Name x _ => if storeOk c x then (match ixOf x c.N with
    | some i => nameG i
    | none => badG) else badG
  | .Tuple es _ _ => if noStar es then tupG (es.map (S.g c)) else badG
  | .Subscript o i _ => if isSlice i then badG else subG (S.e c o) (S.e c i)
  | _ => badG
def stepGs (S : Sem) (c : Den) : Expr → List Nat
  | .Name x _ => match ixOf x c.N with
    | some i => [i]
    | none => []
  | .Tuple es _ _ => (es.map (S.gs c)).flatten
  | _ => []
def blockD (S : Sem) (c : Den) : List Stmt → SK
  | [] => passS
  | [s] => S.s c s
  | s :: r => seqS (S.s c s) (blockD S c r)
/-- how name = [..] is stored -/
def lcSwap (c : Den) (y : Str) (py pos : Pos) (scope : Scope) : Bool := (c.sc.names.lookup y == some .local) && (py.line == pos.line) && !(scope.names.any fun (n, k) => n == y && (k == .local || k == .cell))
def isName : Expr → Bool
  | .Name .. => true
  | _ => false
/-- x, y = a, b: stored side by side -/
def parD (S : Sem) (c : Den) (ts vs : List Expr) (tg e : Expr) : SK := match ts, vs with
  | [.Name x px, .Name y py], [a, b] => if (c.sc.names.lookup x == some .local) && (c.sc.names.lookup y == some .local) && (px.line == px.line && py.line == px.line) && !(x == y) && noStar [a, b] && !(foldedForSure 8 a && foldedForSure 8 b) && !(constantsAlone 8 a && constantsAlone 8 b) then
      (match ixOf x c.N, ixOf y c.N with
      | some i, some j => par2S (S.e c a) (S.e c b) i j
      | _, _ => badS) else badS
  | _, _ => if ts.all isName then badS else if (ts.length == 2 || ts.length == 3) && vs.length == ts.length then (if noStar vs && decide ((ts.filter isName).length < ts.length) then asgS (S.e c e) (S.g c tg) else badS) else badS
def stepS (S : Sem) (c : Den) : Stmt → SK
  | .Expr e _ => if isComp e then badS else dropS (S.e c e)
  | .Return (some e) _ => retS (S.e c e)
  | .Return none _ => retN
  | .Pass _ => passS
  | .Break _ => brkS
  | .Continue _ => cntS
  | .If t a b _ => ifS (S.t c t) (blockD S c a) (blockD S c b)
  | .For tg it body [] _ => if isSet it then badS else forS (S.i c tg it) (S.g c tg) (blockD S c body)
  | .While t body [] _ => whileS c.wf (S.t c t) (blockD S c body)
  | .Assign [.Tuple ts k p] (.Tuple vs k2 p2) _ => parD S c ts vs (.Tuple ts k p) (.Tuple vs k2 p2)
  | .Assign [.Name y py] (.ListComp elt gs scope pos) spos => if lcSwap c y py pos scope then (match gs with
      | [⟨tg, iter, ifs, 0⟩] => (match ixOf y c.N with
        | some i => asgS (lcD S c elt tg iter ifs scope) (nameG i)
        | none => badS)
      | _ => badS) else asgS (S.e c (.ListComp elt gs scope pos)) (S.g c (.Name y py))
  | .Assign [tg] e _ => if isStar tg || isComp e then badS else (match tg, e with
      | .List .., .Tuple .. => badS
      | _, _ => asgS (S.e c e) (S.g c tg))
  | _ => badS
def sem : Nat → Sem
  | 0 => ⟨fun _ _ => badE, fun _ _ => badE, fun _ _ _ => badE, fun _ _ => badG, fun _ _ => [], fun _ _ => badS⟩
  | n + 1 => ⟨stepE (sem n), stepT (sem n), stepI (sem n), stepG (sem n), stepGs (sem n), stepS (sem n)⟩
/-- a def's mirror, from its text -/
def denFn (c : Den) (body : List Stmt) : List D → M D := runS c.N (blockD (sem 40) c body)
end Rx
end
section
set_option maxRecDepth 100000
set_option maxHeartbeats 4000000
/-! RxJ: den is sound: what the text does is what the mirror says. -/
namespace Rx
open PySem PySem.Spec PyProof.Rows L2

/-- a value of the top -/
def GvAt (Γ : Gx) (x : Str) (d : D) : Prop := ∃ (v : V) (u : Value), Γ.mg x = some u ∧ RelV v u ∧ ∀ as G, Rep Γ.K as G d v
structure InX (Γ : Gx) (W : WX) (c : Den) (k : Nat) (X : Cx) : Prop where
  cx : CxR Γ X W
  N : X.N = c.N
  nd : c.N.Nodup
  sc : X.env.scope = c.sc
  kf : c.sc.kind = .function
  fn : X.fn = c.fn
  room : Room (k + c.lv) X.A
  lam : c.lam = true → LamCtx Γ X
  fns : ∀ x cl, c.fns.lookup x = some cl → FnC Γ k x cl
  gvs : ∀ x d, c.gvs.lookup x = some d → GvAt Γ x d
  blt : ∀ x ∈ bltNames, Γ.mg x = none
structure SemOk (Γ : Gx) (S : Sem) : Prop where
  e : ∀ {W c k X}, InX Γ W c k X → ∀ x, PE X x (tE Γ W (S.e c x))
  t : ∀ {W c k X}, InX Γ W c k X → ∀ x, PT X x (tT Γ W (S.t c x))
  i : ∀ {W c k X}, InX Γ W c k X → ∀ tg x, PI X tg x (tI Γ W (S.i c tg x))
  g : ∀ {W c k X}, InX Γ W c k X → ∀ x, PG X x (tGr Γ (S.gs c x) (S.g c x))
  s : ∀ {E c k X}, InX Γ (WE0 E) c k X → PassesOwn (model X.prog X.w) X.A X.env X.xe → ∀ x, PS X x (tS Γ E (S.s c x))
section
variable {Γ : Gx} {W : WX} {c : Den} {k : Nat} {X : Cx} {S : Sem} {E : XK}
theorem InX.units (I : InX Γ W c k X) : Units X := by
  have := I.room.un
  unfold Units
  omega
theorem pe_bad {e : Expr} : PE X e (tE Γ W badE) := e_never
theorem pt_bad {e : Expr} : PT X e (tT Γ W badE) := t_never
theorem pi_bad {tg e : Expr} : PI X tg e (tI Γ W badE) := ⟨fun pins s σ H Q I h => by obtain ⟨_, _, _, _, h⟩ := h; exact h.elim⟩
theorem pg_bad {e : Expr} {sl : List Nat} : PG X e (tGr Γ sl badG) := ⟨fun pins s σ H v u Q I rv h => by
  obtain ⟨ρ, as, τ, d, nx, r, rel, rd, nb, e, k⟩ := h
  exact absurd e.symm nb⟩
theorem InX.nm (I : InX Γ W c k X) {x : Str} {i : Nat} (h : ixOf x c.N = some i) : X.N[i]? = some x := by rw [I.N]; exact ixOf_get h
theorem InX.gl (I : InX Γ W c k X) {x : Str} (h : c.glob x = true) : Gl X x := by
  unfold Gl Env.kindOf
  rw [I.sc]
  unfold Den.glob isGlobal at h
  split at h
  · assumption
  · cases h
theorem InX.vis (I : InX Γ W c k X) {x : Str} (h : isLocal (c.sc.names.lookup x) = true) : Vis X.env.scope x := by
  unfold Vis
  rw [I.sc]
  unfold isLocal at h
  split at h
  · exact .inl (by assumption)
  · exact .inr (.inl (by assumption))
  · exact .inr (.inr (by assumption))
  · cases h
theorem plain1 {x : Str} (h : plainName x = true) : (x == ("__debug__" : Str)) = false ∧ (x == ("__classdict__" : Str)) = false := by
  unfold plainName at h
  simpa only [Bool.and_eq_true, Bool.not_eq_true'] using h
theorem InX.mgn (I : InX Γ W c k X) {x : Str} (h : x ∈ bltNames) : X.mg x = none := by rw [I.cx.mg]; exact I.blt x h
theorem bltNames_ne {x : Str} (h : x ∈ bltNames) : x ≠ "__name__" := by
  intro e
  subst e
  exact absurd h (by decide)
theorem d_name (I : InX Γ W c k X) (x : Str) {pos : Pos} : PE X (.Name x pos) (tE Γ W (nameD c x)) := by
  unfold nameD
  by_cases hp : plainName x = true
  · rw [if_pos hp]
    obtain ⟨p1, p2⟩ := plain1 hp
    by_cases hl : isLocal (c.sc.names.lookup x) = true
    · rw [if_pos hl]
      cases hi : ixOf x c.N with
      | none => exact pe_bad
      | some i => exact e_var I.cx (I.nm hi) (I.vis hl) p1 p2
    · rw [if_neg hl]
      by_cases hg : c.glob x = true
      · rw [if_pos hg]
        cases hv : c.gvs.lookup x with
        | some d =>
          obtain ⟨v, u, h1, h2, h3⟩ := I.gvs x d hv
          exact e_const (pe_glob (I.gl hg) (by rw [I.cx.mg]; exact h1) h2 p1) fun as H => h3 as _
        | none =>
          cases ht : tyOf x with
          | none => exact pe_bad
          | some T =>
            unfold tyOf at ht
            by_cases hb : x ∈ bltNames
            · rw [if_pos hb] at ht
              have hn := bltNames_ne hb
              cases hbb : bootBuiltins x with
              | none => rw [hbb] at ht; cases ht
              | some u =>
                rw [hbb] at ht
                cases u <;> first | cases ht | skip
                refine ⟨fun pins s σ H Q I' h => ld_blt I' (I.gl hg) (I.mgn hb) hbb ?_ hn p1⟩
                obtain ⟨ρ, as, τ, r, h⟩ := h
                exact ⟨.ty T, H, I', rfl, Fin.pure (τ := τ) h r.wr (show RD Γ _ _ _ _ from rfl)⟩
            · rw [if_neg hb] at ht
              cases ht
      · rw [if_neg hg]
        exact pe_bad
  · rw [if_neg hp]
    exact pe_bad
/-! ### argument lists -/
theorem star_cons {e : Expr} {es : List Expr} {env : Env} (h : isStar e = false) : starEach (e :: es) env = (false, eval e env) :: starEach es env := by
  cases e <;> first | rfl | cases h
theorem star_plain {env : Env} {pos : Pos} : ∀ {es : List Expr}, noStar es = true → (backTo pos (starEach es env)).any (·.1) = false
  | [], _ => rfl
  | e :: es, h => by
    unfold noStar at h
    simp only [List.all_cons, Bool.and_eq_true, Bool.not_eq_true'] at h
    rw [star_cons h.1]
    show (false || (backTo pos (starEach es env)).any (·.1)) = false
    rw [star_plain h.2]
    rfl
theorem star_all {env : Env} {pos : Pos} : ∀ {es : List Expr}, noStar es = true → (backTo pos (starEach es env)).all (fun x => !x.1) = true
  | [], _ => rfl
  | e :: es, h => by
    unfold noStar at h
    simp only [List.all_cons, Bool.and_eq_true, Bool.not_eq_true'] at h
    rw [star_cons h.1]
    show (!false && (backTo pos (starEach es env)).all (fun x => !x.1)) = true
    rw [star_all h.2]
    rfl
theorem noStar_cons {e : Expr} {es : List Expr} (h : noStar (e :: es) = true) : isStar e = false ∧ noStar es = true := by
  unfold noStar at h ⊢
  simpa only [List.all_cons, Bool.and_eq_true, Bool.not_eq_true'] using h
theorem d_args (I : InX Γ W c k X) (O : SemOk Γ S) : ∀ es : List Expr, PA X es (tA Γ W (argsE (argsD S c es)))
  | [] => a_nil
  | e :: es => by
    by_cases h : isStar e = true
    · cases e <;> first | cases h | skip
      exact a_star I.cx (O.e I _) (d_args I O es)
    · have h' : isStar e = false := by simpa using h
      have ha : argD S c e = .one (S.e c e) := by cases e <;> first | rfl | cases h'
      show PA X (e :: es) (tA Γ W (argsE (argD S c e :: argsD S c es)))
      rw [ha]
      exact a_cons (O.e I _) (d_args I O es) (star_cons h')
theorem args_len {S : Sem} {c : Den} : ∀ {es : List Expr}, noStar es = true → ∀ ρ τ ds τ', argsE (argsD S c es) ρ τ = .ok ds τ' → ds.length = es.length
  | [], _, ρ, τ, ds, τ', h => by cases h; rfl
  | e :: es, hs, ρ, τ, ds, τ', h => by
    obtain ⟨h1, h2⟩ := noStar_cons hs
    have ha : argD S c e = .one (S.e c e) := by cases e <;> first | rfl | cases h1
    have h : argsE (argD S c e :: argsD S c es) ρ τ = .ok ds τ' := h
    rw [ha] at h
    have h : M.bind (S.e c e ρ) (fun x => M.bind (argsE (argsD S c es) ρ) fun xs => M.pure (x :: xs)) τ = .ok ds τ' := h
    cases q : S.e c e ρ τ with
    | bad => rw [M.bind_bad' q] at h; cases h
    | exc a b => rw [M.bind_exc q] at h; cases h
    | ok x τ1 =>
      rw [M.bind_ok q] at h
      cases q2 : argsE (argsD S c es) ρ τ1 with
      | bad => rw [M.bind_bad' q2] at h; cases h
      | exc a b => rw [M.bind_exc q2] at h; cases h
      | ok xs τ2 =>
        rw [M.bind_ok q2] at h
        cases h
        show xs.length + 1 = es.length + 1
        rw [args_len h2 _ _ _ _ q2]
theorem kws_len {S : Sem} {c : Den} : ∀ {ks : List Keyword}, ∀ ρ τ ds τ', argsE (kwsD S c ks) ρ τ = .ok ds τ' → ds.length = ks.length
  | [], ρ, τ, ds, τ', h => by cases h; rfl
  | e :: es, ρ, τ, ds, τ', h => by
    have h : M.bind (S.e c e.value ρ) (fun x => M.bind (argsE (kwsD S c es) ρ) fun xs => M.pure (x :: xs)) τ = .ok ds τ' := h
    cases q : S.e c e.value ρ τ with
    | bad => rw [M.bind_bad' q] at h; cases h
    | exc a b => rw [M.bind_exc q] at h; cases h
    | ok x τ1 =>
      rw [M.bind_ok q] at h
      cases q2 : argsE (kwsD S c es) ρ τ1 with
      | bad => rw [M.bind_bad' q2] at h; cases h
      | exc a b => rw [M.bind_exc q2] at h; cases h
      | ok xs τ2 =>
        rw [M.bind_ok q2] at h
        cases h
        show xs.length + 1 = es.length + 1
        rw [kws_len _ _ _ _ q2]
theorem PK.imp {e : List Keyword} {t t' : TA} (h : PK X e t) (k : ∀ σ H Q, t' σ H Q → t σ H Q) : PK X e t' := ⟨fun pos pins s σ H Q I q => h.run pos pins s σ H Q I (k _ _ _ q)⟩
theorem d_kws (I : InX Γ W c k X) (O : SemOk Γ S) : ∀ ks : List Keyword, PK X ks (tA Γ W (argsE (kwsD S c ks)))
  | [] => PK.imp pk_nil fun σ H Q h => by
    obtain ⟨ρ, as, τ, r, h⟩ := h
    exact Fin.pure (τ := τ) h r.wr rfl
  | ⟨nm, e, kp⟩ :: ks => by
    refine PK.imp (pk_cons (O.e I e) (d_kws I O ks)) fun σ H Q h => ?_
    refine tG_two (f := fun x xs _ => M.pure (x :: xs)) monoD h fun ρ as τ x xs vx vxs H2 r rx rxs fin => ?_
    exact Fin.pure (τ := τ) fin r.wr (show RDs Γ _ _ _ _ from Reps.cons rx rxs)
theorem kw_names {env : Env} {pos : Pos} : ∀ {ks : List Keyword} {ns : List Str}, ns.map some = ks.map (·.arg) →
    (backToKw pos (keywordEach ks env)).all (·.1.isSome) = true ∧ (backToKw pos (keywordEach ks env)).filterMap (·.1) = ns ∧ (backToKw pos (keywordEach ks env)).any (·.1.isNone) = false
  | [], [], _ => ⟨rfl, rfl, rfl⟩
  | [], _ :: _, h => by simp at h
  | _ :: _, [], h => by simp at h
  | ⟨nm, e, kp⟩ :: ks, n :: ns, h => by
    simp only [List.map_cons, List.cons.injEq] at h
    obtain ⟨h1, h2, h3⟩ := kw_names (env := env) (pos := pos) h.2
    have e1 : nm = some n := h.1.symm
    subst e1
    refine ⟨?_, ?_, ?_⟩
    · show (true && (backToKw pos (keywordEach ks env)).all (·.1.isSome)) = true
      rw [h1]; rfl
    · show n :: (backToKw pos (keywordEach ks env)).filterMap (·.1) = n :: ns
      rw [h2]
    · show (false || (backToKw pos (keywordEach ks env)).any (·.1.isNone)) = false
      rw [h3]; rfl
/-! ### calls -/
def BltOk (X : Cx) (Γ : Gx) (x : Str) (f : List D → Sto → Option D) : Prop := x ∈ bltNames ∧ ((∃ id, bootBuiltins x = some (.builtin id) ∧ CallR X (.builtin id) (rLV Γ f)) ∨ (∃ T, bootBuiltins x = some (.type T) ∧ CallR X (.type T) (rLV Γ f)))
theorem blt_ok (I : InX Γ W c k X) {x : Str} {f : List D → Sto → Option D} (h : bltD x = some f) : BltOk X Γ x f := by
  have hc := I.cx.calm
  have hK := I.cx.K
  unfold bltD at h
  by_cases e : x = "len"
  · rw [if_pos e] at h
    subst e
    cases h
    exact ⟨by decide, .inl ⟨"len", rfl, lenR hK⟩⟩
  rw [if_neg e] at h
  clear e
  by_cases e : x = "isinstance"
  · rw [if_pos e] at h
    subst e
    cases h
    exact ⟨by decide, .inl ⟨"isinstance", rfl, isiR hK⟩⟩
  rw [if_neg e] at h
  clear e
  by_cases e : x = "int"
  · rw [if_pos e] at h
    subst e
    cases h
    exact ⟨by decide, .inr ⟨"int", rfl, intR⟩⟩
  rw [if_neg e] at h
  clear e
  by_cases e : x = "str"
  · rw [if_pos e] at h
    subst e
    cases h
    exact ⟨by decide, .inr ⟨"str", rfl, strR⟩⟩
  rw [if_neg e] at h
  clear e
  by_cases e : x = "abs"
  · rw [if_pos e] at h
    subst e
    cases h
    exact ⟨by decide, .inl ⟨"abs", rfl, absR⟩⟩
  rw [if_neg e] at h
  clear e
  by_cases e : x = "max"
  · rw [if_pos e] at h
    subst e
    cases h
    exact ⟨by decide, .inl ⟨"max", rfl, maxR hc⟩⟩
  rw [if_neg e] at h
  clear e
  by_cases e : x = "min"
  · rw [if_pos e] at h
    subst e
    cases h
    exact ⟨by decide, .inl ⟨"min", rfl, minR hc⟩⟩
  rw [if_neg e] at h
  clear e
  by_cases e : x = "sum"
  · rw [if_pos e] at h
    subst e
    cases h
    exact ⟨by decide, .inl ⟨"sum", rfl, sumR hc⟩⟩
  rw [if_neg e] at h
  clear e
  by_cases e : x = "all"
  · rw [if_pos e] at h
    subst e
    cases h
    exact ⟨by decide, .inl ⟨"all", rfl, allR hc⟩⟩
  rw [if_neg e] at h
  clear e
  by_cases e : x = "any"
  · rw [if_pos e] at h
    subst e
    cases h
    exact ⟨by decide, .inl ⟨"any", rfl, anyR hc⟩⟩
  rw [if_neg e] at h
  clear e
  by_cases e : x = "sorted"
  · rw [if_pos e] at h
    subst e
    cases h
    exact ⟨by decide, .inl ⟨"sorted", rfl, sortedR⟩⟩
  rw [if_neg e] at h
  clear e
  by_cases e : x = "tuple"
  · rw [if_pos e] at h
    subst e
    cases h
    exact ⟨by decide, .inr ⟨"tuple", rfl, tupleR hK⟩⟩
  rw [if_neg e] at h
  clear e
  by_cases e : x = "list"
  · rw [if_pos e] at h
    subst e
    cases h
    exact ⟨by decide, .inr ⟨"list", rfl, listR hK⟩⟩
  rw [if_neg e] at h
  clear e
  by_cases e : x = "divmod"
  · rw [if_pos e] at h
    subst e
    cases h
    exact ⟨by decide, .inl ⟨"divmod", rfl, divmodR⟩⟩
  rw [if_neg e] at h
  clear e
  cases h
theorem applies_of (I : InX Γ W c k X) (O : SemOk Γ S) {l : Nat} (hl : c.lv = l + 1) (lam : Expr) (caps ds : List D) (τ : Sto) (h : applyD S c (.clo lam caps) ds τ ≠ .bad) : ∃ N ps body mb, Applies Γ (k + l) lam caps ds N ps body mb ∧ applyD S c (.clo lam caps) ds = mb (startR N ds) := by
  cases lam <;> first | exact absurd rfl h | skip
  rename_i params body scope lp
  unfold applyD at h ⊢
  simp only [hl] at h ⊢
  cases hp : plainPs params with
  | none => rw [hp] at h; exact absurd rfl h
  | some ps =>
    rw [hp] at h
    simp only at h ⊢
    by_cases h1 : (caps.length == 0 && ds.length == ps.length && NdefX.nscB ps ps [] scope) = true
    · rw [if_pos h1]
      simp only [Bool.and_eq_true, beq_iff_eq] at h1
      have hc : caps = [] := List.length_eq_zero_iff.mp h1.1.1
      have NS := NdefX.nscope_by h1.2
      refine ⟨ps, ps, body, _, ⟨params, scope, lp, rfl, hc, hp, NS, h1.1.2, fun X' W' C' hN hsc hfn hr => ?_⟩, rfl⟩
      exact O.e (c := { c with N := ps, sc := scope, fn := fun _ => false, lam := false, lv := l }) (k := k) ⟨C', hN, NS.nd, hsc, NS.kind, hfn, hr, (fun z => nomatch z), I.fns, I.gvs, I.blt⟩ body
    · rw [if_neg h1] at h
      exact absurd rfl h
theorem d_clo (I : InX Γ W c k X) (O : SemOk Γ S) {x : Str} {es : List Expr} {ks : List Keyword} {p pos : Pos} : PE X (.Call (.Name x p) es ks pos) (tE Γ W (cloD S c x es ks)) := by
  unfold cloD
  by_cases h0 : (plainName x && isLocal (c.sc.names.lookup x) && noStar es && ks.isEmpty) = true
  · rw [if_pos h0]
    simp only [Bool.and_eq_true] at h0
    obtain ⟨⟨⟨h1, h2⟩, h3⟩, h4⟩ := h0
    obtain ⟨p1, p2⟩ := plain1 h1
    have hk : ks = [] := List.isEmpty_iff.mp h4
    subst hk
    cases hi : ixOf x c.N with
    | none => exact pe_bad
    | some i =>
      cases hl : c.lv with
      | zero => exact pe_bad
      | succ l =>
        refine e_clo (k := k + l) I.cx (by have := I.room; rw [hl] at this; exact this) (I.nm hi) (I.vis h2) p1 p2 (d_args I O es) (fun e => by subst e; rfl) (fun e r er => ?_) (applies_of I O hl)
        subst er
        exact ⟨star_cons (noStar_cons h3).1, star_plain (noStar_cons h3).2⟩
  · rw [if_neg h0]
    exact pe_bad
theorem d_call (I : InX Γ W c k X) (O : SemOk Γ S) {x : Str} {es : List Expr} {ks : List Keyword} {p pos : Pos} : PE X (.Call (.Name x p) es ks pos) (tE Γ W (callD S c x es ks)) := by
  unfold callD
  by_cases h0 : (plainName x && c.glob x) = true
  · rw [if_pos h0]
    simp only [Bool.and_eq_true] at h0
    obtain ⟨p1, p2⟩ := plain1 h0.1
    have hg := I.gl h0.2
    cases hf : c.fns.lookup x with
    | some cl =>
      have F := I.fns x cl hf
      by_cases hs : noStar es = true
      · simp only [if_pos hs]
        cases ks with
        | nil =>
          by_cases hl : es.length = cl.ps.length
          · simp only [if_pos hl]
            cases es with
            | nil => exact e_callC0 I.cx F (I.room.mono (Nat.le_add_right _ _)) hg (List.length_eq_zero_iff.mp hl.symm) p1
            | cons e es =>
              exact e_callC I.cx F (I.room.mono (Nat.le_add_right _ _)) hg (d_args I O _) (fun ρ τ ds τ' q => by rw [args_len hs _ _ _ _ q]; exact hl) p1 (star_cons (noStar_cons hs).1) (star_plain (noStar_cons hs).2)
          · simp only [if_neg hl]
            exact pe_bad
        | cons kw ks =>
          cases hq : cl.pats.find? (fun p => p.1 == es.length && decide (p.2.1.map some = (kw :: ks).map (·.arg))) with
          | none => simp only [hq]; exact pe_bad
          | some q =>
            obtain ⟨n, ns, is⟩ := q
            simp only [hq]
            by_cases hi : (is.all fun i => decide (i < n + ns.length)) && is.length == cl.ps.length
            · rw [if_pos hi]
              simp only [Bool.and_eq_true, List.all_eq_true, decide_eq_true_eq, beq_iff_eq] at hi
              have hm := List.mem_of_find?_eq_some hq
              have hp := List.find?_some hq
              simp only [Bool.and_eq_true, beq_iff_eq, decide_eq_true_eq] at hp
              obtain ⟨k1, k2, k3⟩ := kw_names (env := X.env) (pos := pos) hp.2
              have hkl : ns.length = (kw :: ks).length := by
                have := congrArg List.length hp.2
                simpa using this
              cases es with
              | nil =>
                have hn : n = 0 := hp.1
                subst hn
                exact e_callCK0 I.cx F hm (I.room.mono (Nat.le_add_right _ _)) hg (d_kws I O _) (fun ρ τ ds τ' q => by rw [kws_len _ _ _ _ q]; exact hkl.symm) hi.1 hi.2 k1 k2 p1 (by rw [star_plain hs, k3]; rfl)
              | cons e es =>
                have hn : n = (e :: es).length := hp.1
                exact e_callCK I.cx F hm (I.room.mono (Nat.le_add_right _ _)) hg (d_args I O _) (d_kws I O _) (fun ρ τ ds τ' q => by rw [args_len hs _ _ _ _ q]; exact hn.symm) (fun ρ τ ds τ' q => by rw [kws_len _ _ _ _ q]; exact hkl.symm) hi.1 hi.2 k1 k2 p1
                  (star_cons (noStar_cons hs).1) (by rw [star_plain hs, k3]; rfl)
            · rw [if_neg hi]
              exact pe_bad
      · simp only [if_neg hs]
        exact pe_bad
    | none =>
      cases ks with
      | cons kw ks => exact pe_bad
      | nil =>
        cases es with
        | nil => exact pe_bad
        | cons e es =>
          by_cases hs : noStar (e :: es) = true
          · simp only [if_pos hs]
            cases hb : bltD x with
            | none => exact pe_bad
            | some f =>
              obtain ⟨hm, hh⟩ := blt_ok I hb
              have hn := bltNames_ne hm
              rcases hh with ⟨id, h1, h2⟩ | ⟨T, h1, h2⟩
              · exact e_callB h2 hg (I.mgn hm) h1 (d_args I O _) hn p1 (star_cons (noStar_cons hs).1) (star_plain (noStar_cons hs).2)
              · exact e_callTy h2 hg (I.mgn hm) h1 (d_args I O _) hn p1 (star_cons (noStar_cons hs).1) (star_plain (noStar_cons hs).2)
          · simp only [if_neg hs]
            exact pe_bad
  · rw [if_neg h0]
    exact d_clo I O
end
end Rx
end
section
set_option maxRecDepth 100000
set_option maxHeartbeats 4000000
/-! RxK: den is sound, the rest: methods, comprehensions, tests, what is walked, targets, statements; all levels. -/
namespace Rx
open PySem PySem.Spec PyProof.Rows L2
section
variable {Γ : Gx} {W : WX} {c : Den} {k : Nat} {X : Cx} {S : Sem} {E : XK}
theorem attr_plain {o : Expr} {m : Str} {env : Env} {whole : PySem.Sem Value} (h : notSuper o = true) : attributeBase o m env whole = whole := by
  cases o <;> first | rfl | cases h
theorem d_meth (I : InX Γ W c k X) (O : SemOk Γ S) {o : Expr} {m : Str} {es : List Expr} {apos cpos : Pos} : PE X (.Call (.Attribute o m apos) es [] cpos) (tE Γ W (methD S c o m es apos cpos)) := by
  unfold methD
  cases es with
  | nil => exact pe_bad
  | cons e es =>
    by_cases h0 : (notSuper o && noStar (e :: es) && decide ((e :: es).length < 29) && apos.endLine == cpos.line) = true
    · simp only [if_pos h0]
      simp only [Bool.and_eq_true, decide_eq_true_eq] at h0
      obtain ⟨⟨⟨h1, h2⟩, h3⟩, h4⟩ := h0
      have hfew : ((backTo cpos (starEach (e :: es) X.env)).all (fun x => !x.1) && (backToKw cpos (keywordEach [] X.env)).all (fun x => x.1.isSome)
          && decide ((e :: es).length + ([] : List Keyword).length + (if ([] : List Keyword).isEmpty then 0 else 1) < 30)) = true := by
        rw [star_all h2]
        show (true && true && decide ((e :: es).length + 0 + 0 < 30)) = true
        simp only [Bool.true_and, decide_eq_true_eq]
        omega
      cases hm : mthD m with
      | none => exact pe_bad
      | some q =>
        obtain ⟨T, f⟩ := q
        unfold mthD at hm
        by_cases e1 : m = "split"
        · rw [if_pos e1] at hm
          subst e1
          cases hm
          exact e_meth F.plainAttrs_str (id := "str.split") (by exact F.slot_str_split) rfl splitR (O.e I o) (d_args I O _) (attr_plain h1) hfew h4 (star_cons (noStar_cons h2).1) (star_plain (noStar_cons h2).2)
        · rw [if_neg e1] at hm
          by_cases e2 : m = "join"
          · rw [if_pos e2] at hm
            subst e2
            cases hm
            exact e_meth F.plainAttrs_str (id := "str.join") (by exact F.slot_str_join) rfl (joinR I.cx.K) (O.e I o) (d_args I O _) (attr_plain h1) hfew h4 (star_cons (noStar_cons h2).1) (star_plain (noStar_cons h2).2)
          · rw [if_neg e2] at hm
            cases hm
    · simp only [if_neg h0]
      exact pe_bad
/-! ### comprehensions -/
theorem InX.blk (I : InX Γ W c k X) (scope : Scope) (hk : scope.kind = .function) : AtBlk X scope fun X' => InX Γ W0 (c.blk scope) k X' := fun s H C cl fp =>
  { cx := ⟨I.cx.prog, I.cx.w, I.cx.base, I.cx.K, I.cx.mg, takes0, I.cx.calm⟩
    N := I.N
    nd := I.nd
    sc := by
      show relS scope X.env.scope = relS scope c.sc
      rw [I.sc]
    kf := hk
    fn := rfl
    room := I.room
    lam := fun z => ⟨(I.lam z).ex⟩
    fns := I.fns
    gvs := I.gvs
    blt := I.blt }
theorem d_tests (I : InX Γ W0 c k X) (O : SemOk Γ S) {ifs : List Expr} (h : ifs.length ≤ 1) : ∃ tt, PTs X ifs tt ∧ ∀ σ H Q, tT Γ W0 (testsD S c ifs) σ H Q → tt σ H Q := by
  match ifs, h with
  | [], _ => exact ⟨tYes, pts_nil, tts_nil⟩
  | [e], _ => exact ⟨_, pts_one (O.t I e), fun _ _ _ h => h⟩
theorem pts_d (I : InX Γ W c k X) (O : SemOk Γ S) {ifs : List Expr} {scope : Scope} (hk : scope.kind = .function) (h : ifs.length ≤ 1) : ∃ tt, (AtBlk X scope fun X' => PTs X' ifs tt) ∧ ∀ σ H Q, tT Γ W0 (testsD S (c.blk scope) ifs) σ H Q → tt σ H Q := by
  match ifs, h with
  | [], _ => exact ⟨tYes, fun _ _ _ _ _ => pts_nil, tts_nil⟩
  | [e], _ => exact ⟨_, fun s H C cl fp => pts_one (O.t (I.blk scope hk s H C cl fp) e), fun _ _ _ h => h⟩
theorem fold_plain {iter : Expr} {env : Env} (h : isSet iter = false) : ∀ x, foldedSetIterable iter env x = pure x := by
  intro x
  cases iter <;> first | rfl | cases h
theorem blk_kind {N : List Str} {sc scope : Scope} {own : List (Str × Nat)} (h : blkC N sc scope own = true) : scope.kind = .function := (blkOk_by h).kind
theorem d_lc (I : InX Γ W c k X) (O : SemOk Γ S) {elt tg iter : Expr} {ifs : List Expr} {scope : Scope} {pos : Pos} : PE X (.ListComp elt [⟨tg, iter, ifs, 0⟩] scope pos) (tE Γ W (lcD S c elt tg iter ifs scope)) := by
  unfold lcD
  by_cases h0 : (blkC c.N c.sc scope (ownOf c.N scope.names) && !isSet iter && ((S.gs (c.blk scope) tg).all fun i => decide (i ∈ (ownOf c.N scope.names).map (·.2))) && decide (ifs.length ≤ 1)) = true
  · simp only [if_pos h0]
    simp only [Bool.and_eq_true, decide_eq_true_eq, Bool.not_eq_true', List.all_eq_true] at h0
    obtain ⟨⟨⟨h1, h2⟩, h3⟩, h4⟩ := h0
    have hk := blk_kind h1
    obtain ⟨tt, t1, t2⟩ := pts_d (S := S) I O hk h4
    exact e_lc I.cx.calm (by rw [I.N]; exact I.nd) (O.i I tg iter) (by rw [I.N, I.sc]; exact blkOk_by h1) h3 (fun s H C cl fp => O.g (I.blk scope hk s H C cl fp) tg) t1 t2 (fun s H C cl fp => O.e (I.blk scope hk s H C cl fp) elt) (fold_plain h2)
  · simp only [if_neg h0]
    exact pe_bad
/-! ### subscripts, boolean chains -/
theorem d_slice (I : InX Γ W c k X) (O : SemOk Γ S) : ∀ o : Option Expr, PO X o (tO Γ W (partO (sliceD S c o)))
  | none => o_none
  | some e => o_some (O.e I e)
theorem d_sub (I : InX Γ W c k X) (O : SemOk Γ S) {a b : Expr} {pos : Pos} : PE X (.Subscript a b pos) (tE Γ W (subD S c a b)) := by
  by_cases hs : isSlice b = true
  · cases b <;> first | cases hs | skip
    rename_i lo hi st p
    cases st with
    | none => exact e_sl I.cx (O.e I a) (d_slice I O lo) (d_slice I O hi)
    | some st =>
      have : subD S c a (.Slice lo hi (some st) p) = badE := by unfold subD; rfl
      rw [this]
      exact pe_bad
  · have e1 : subD S c a b = ixE (S.e c a) (S.e c b) := by
      cases b <;> first | rfl | exact absurd rfl hs
    rw [e1]
    refine e_ix I.cx (O.e I a) (O.e I b) ?_
    intro o i
    cases b <;> first | rfl | exact absurd rfl hs
theorem d_ands (I : InX Γ W c k X) (O : SemOk Γ S) {pos : Pos} : ∀ vs : List Expr, PE X (.BoolOp .And vs pos) (tE Γ W (andsE (vs.map (S.e c))))
  | [] => pe_bad
  | [a] => e_and1 (O.e I a)
  | a :: b :: r => e_and I.cx (O.e I a) (d_ands I O (b :: r))
theorem d_ors (I : InX Γ W c k X) (O : SemOk Γ S) {pos : Pos} : ∀ vs : List Expr, PE X (.BoolOp .Or vs pos) (tE Γ W (orsE (vs.map (S.e c))))
  | [] => pe_bad
  | [a] => e_and1 (O.e I a)
  | a :: b :: r => e_or I.cx (O.e I a) (d_ors I O (b :: r))
theorem pw_bad {e : Expr} : PW X e (tT Γ W badE) := ⟨fun wh pins s σ H Q I h => by obtain ⟨_, _, _, _, h⟩ := h; exact h.elim⟩
theorem d_andsT (I : InX Γ W c k X) (O : SemOk Γ S) {pos : Pos} : ∀ vs : List Expr, PW X (.BoolOp .And vs pos) (tT Γ W (andsT (vs.map (S.t c))))
  | [] => pw_bad
  | [a] => t_and1 (O.t I a)
  | a :: b :: r => t_and (O.t I a) (d_andsT I O (b :: r))
theorem d_orsT (I : InX Γ W c k X) (O : SemOk Γ S) {pos : Pos} : ∀ vs : List Expr, PW X (.BoolOp .Or vs pos) (tT Γ W (orsT (vs.map (S.t c))))
  | [] => pw_bad
  | [a] => t_or1 (O.t I a)
  | a :: b :: r => t_or (O.t I a) (d_orsT I O (b :: r))
theorem mark_plain {op : CmpOp} {b : Expr} (h : isSet b = false) : behindInMarks op b = false := by
  cases b <;> first | rfl | cases h
theorem marks_plain {op op' : CmpOp} {b d : Expr} (h : isSet b = false) (h' : isSet d = false) : lastMarks [op, op'] [b, d] = false := by
  unfold lastMarks
  unfold lastMarks
  exact mark_plain h'
theorem d_e (I : InX Γ W c k X) (O : SemOk Γ S) (x : Expr) : PE X x (tE Γ W (stepE S c x)) := by
  unfold stepE
  split
  · exact e_int
  · exact e_bl
  · exact e_non
  · exact e_str
  · exact d_name I _
  · exact e_bin I.cx (O.e I _) (O.e I _)
  · exact e_neg (O.e I _)
  · exact e_not I.cx (O.e I _)
  · exact d_ands I O _
  · exact d_ors I O _
  · exact e_if (O.t I _) (O.e I _) (O.e I _)
  · rename_i a op b pos
    by_cases h : isSet b = true
    · rw [if_pos h]; exact pe_bad
    · rw [if_neg h]
      exact e_cmp I.cx I.units (O.e I _) (O.e I _) (mark_plain (by simpa using h))
  · rename_i a op op' b d pos
    by_cases h : (isSet b || isSet d) = true
    · rw [if_pos h]; exact pe_bad
    · rw [if_neg h]
      simp only [Bool.or_eq_true, not_or, Bool.not_eq_true] at h
      exact e_chain I.cx I.units (O.e I _) (O.e I _) (O.e I _) (marks_plain h.1 h.2)
  · exact d_sub I O
  · exact e_tup (d_args I O _)
  · rename_i es p
    by_cases h : p.line ∈ c.lo
    · rw [if_pos h]; exact e_loc (d_args I O _)
    · rw [if_neg h]; exact e_lst (d_args I O _)
  · exact d_lc I O
  · exact d_call I O
  · exact d_meth I O
  · rename_i params body scope p
    by_cases h : (c.lam && (scope.names.all fun y => !decide (y.2 = .free)) && (plainPs params).isSome) = true
    · rw [if_pos h]
      simp only [Bool.and_eq_true, List.all_eq_true, Bool.not_eq_true', decide_eq_false_iff_not] at h
      refine e_lam0 I.cx (I.lam h.1.1) h.1.2 ?_
      have h3 := h.2
      unfold plainPs at h3
      split at h3
      · rfl
      · cases h3
    · rw [if_neg h]
      exact pe_bad
  · exact pe_bad
theorem true_plain {e : Expr} {env : Env} (h : plainT e = true) : ∀ whole, isTrue e env whole = (do let v ← whole; standAt e.pos; holding [v] (truthy v)) := by
  intro whole
  cases e <;> first | rfl | cases h | skip
  rename_i op a p
  cases op <;> first | rfl | cases h
theorem d_t (I : InX Γ W c k X) (O : SemOk Γ S) (x : Expr) : PT X x (tT Γ W (stepT S c x)) := by
  unfold stepT
  split
  · exact t_not (O.t I _)
  · exact (d_andsT I O _).pt
  · exact (d_orsT I O _).pt
  · rename_i a op b pos
    by_cases h : isSet b = true
    · rw [if_pos h]; exact pt_bad
    · rw [if_neg h]
      exact t_cmp I.cx I.units (O.e I _) (O.e I _) (mark_plain (by simpa using h))
  · rename_i a op op' b d pos
    by_cases h : (isSet b || isSet d) = true
    · rw [if_pos h]; exact pt_bad
    · rw [if_neg h]
      simp only [Bool.or_eq_true, not_or, Bool.not_eq_true] at h
      exact t_chain I.cx I.units (O.e I _) (O.e I _) (O.e I _) (marks_plain h.1 h.2)
  · rename_i e _ _ _ _ _
    by_cases h : plainT x = true
    · rw [if_pos h]; exact t_tru I.cx (O.e I _) (true_plain h)
    · rw [if_neg h]; exact pt_bad
/-! ### what is walked -/
theorem d_call_i (I : InX Γ W c k X) (O : SemOk Γ S) {tg : Expr} {x : Str} {es : List Expr} {p pos : Pos} : PI X tg (.Call (.Name x p) es [] pos) (tI Γ W (callI S c tg x es (.Call (.Name x p) es [] pos))) := by
  unfold callI
  by_cases h1 : x = "enumerate" ∧ c.glob x ∧ c.fns.lookup x = none ∧ isTup tg = true
  · rw [if_pos h1]
    obtain ⟨rfl, hg, _, ht⟩ := h1
    cases tg <;> first | cases ht | skip
    match es with
    | [] => exact pi_bad
    | [e] =>
      by_cases hs : isStar e = true
      · simp only [if_pos hs]; exact pi_bad
      · simp only [if_neg hs]
        have hs' : isStar e = false := by simpa using hs
        refine i_enum I.cx (I.gl hg) (I.mgn (by decide)) ?_ (by rw [star_cons hs']; rfl)
        exact a_cons (O.e I e) a_nil (star_cons hs')
    | _ :: _ :: _ => exact pi_bad
  · rw [if_neg h1]
    by_cases h2 : x = "zip" ∧ c.glob x ∧ c.fns.lookup x = none ∧ isTup tg = true
    · rw [if_pos h2]
      obtain ⟨rfl, hg, _, ht⟩ := h2
      cases tg <;> first | cases ht | skip
      match es with
      | [] => exact pi_bad
      | [e] => exact pi_bad
      | [e, e2] =>
        by_cases hs : (isStar e || isStar e2) = true
        · simp only [if_pos hs]; exact pi_bad
        · simp only [if_neg hs]
          simp only [Bool.or_eq_true, not_or, Bool.not_eq_true] at hs
          refine i_zip I.cx (I.gl hg) (I.mgn (by decide)) ?_ (star_cons hs.1) (star_plain (by unfold noStar; simp [hs.2]))
          exact a_cons (O.e I e) (a_cons (O.e I e2) a_nil (star_cons hs.2)) (star_cons hs.1)
      | _ :: _ :: _ :: _ => exact pi_bad
    · rw [if_neg h2]
      by_cases h3 : x = "range" ∧ c.glob x ∧ c.fns.lookup x = none
      · rw [if_pos h3]
        obtain ⟨rfl, hg, _⟩ := h3
        match es with
        | [] => exact pi_bad
        | [e] =>
          by_cases hs : isStar e = true
          · simp only [if_pos hs]; exact pi_bad
          · simp only [if_neg hs]
            have hs' : isStar e = false := by simpa using hs
            exact i_rng1 (I.gl hg) (I.mgn (by decide)) (a_cons (O.e I e) a_nil (star_cons hs')) (by rw [star_cons hs']; rfl)
        | [e, e2] =>
          by_cases hs : (isStar e || isStar e2) = true
          · simp only [if_pos hs]; exact pi_bad
          · simp only [if_neg hs]
            simp only [Bool.or_eq_true, not_or, Bool.not_eq_true] at hs
            have hs2 : starEach [e2] X.env = [(false, eval e2 X.env)] := by rw [star_cons hs.2]; rfl
            exact i_rng2 (I.gl hg) (I.mgn (by decide)) (a_cons (O.e I e) (a_cons (O.e I e2) a_nil (star_cons hs.2)) (star_cons hs.1)) (by rw [star_cons hs.1, hs2]) hs2
        | _ :: _ :: _ :: _ => exact pi_bad
      · rw [if_neg h3]
        exact i_any I.cx (O.e I _)
theorem d_i (I : InX Γ W c k X) (O : SemOk Γ S) (tg x : Expr) : PI X tg x (tI Γ W (stepI S c tg x)) := by
  unfold stepI
  split
  · exact d_call_i I O
  · exact i_any I.cx (O.e I _)
/-! ### targets -/
theorem tGr_sub {e : Expr} {sl sl' : List Nat} {g : GK} (h : PG X e (tGr Γ sl g)) (hs : ∀ i ∈ sl, i ∈ sl') : PG X e (tGr Γ sl' g) := PG.imp h fun v σ H Q q => by
  obtain ⟨ρ, as, τ, d, nx, r, rel, rd, nb, e, k⟩ := q
  exact ⟨ρ, as, τ, d, nx, r, rel, rd, nb, e, fun ρ' as' τ' σ' H' x r' of => k ρ' as' τ' σ' H' x r' (of.sub hs)⟩
theorem assign_cons {e : Expr} {es : List Expr} {env : Env} (h : isStar e = false) : assignEach (e :: es) env = (false, assign e env) :: assignEach es env := by
  cases e <;> first | rfl | cases h
theorem assign_len {env : Env} : ∀ {es : List Expr}, noStar es = true → (assignEach es env).length = es.length ∧ (assignEach es env).findIdx? (·.1) = none
  | [], _ => ⟨rfl, rfl⟩
  | e :: es, h => by
    obtain ⟨h1, h2⟩ := noStar_cons h
    obtain ⟨a, b⟩ := assign_len (env := env) h2
    rw [assign_cons h1]
    refine ⟨by simp [a], ?_⟩
    rw [List.findIdx?_cons]
    simp [b]
theorem d_gs (I : InX Γ W c k X) (O : SemOk Γ S) : ∀ {es : List Expr} {sl : List Nat}, noStar es = true → (∀ e ∈ es, ∀ i ∈ S.gs c e, i ∈ sl) → PGs X es (tGrs Γ sl (es.map (S.g c)))
  | [], sl, _, _ => gs_nil
  | e :: es, sl, h, hs => by
    obtain ⟨h1, h2⟩ := noStar_cons h
    exact gs_cons (tGr_sub (O.g I e) (hs e List.mem_cons_self)) (d_gs I O h2 fun e' he => hs e' (List.mem_cons_of_mem _ he)) (by rw [assign_cons h1]; rfl)
theorem d_g (I : InX Γ W c k X) (O : SemOk Γ S) (x : Expr) : PG X x (tGr Γ (stepGs S c x) (stepG S c x)) := by
  unfold stepG
  split
  · rename_i x p
    by_cases hs : storeOk c x = true
    · rw [if_pos hs]
      unfold stepGs
      simp only
      cases hi : ixOf x c.N with
      | none => exact pg_bad
      | some i =>
        unfold storeOk at hs
        refine g_name (by rw [I.N]; exact I.nd) (I.nm hi) ?_ ?_
        · unfold L2.Loc
          rw [I.sc]
          split at hs
          · exact .inl (by assumption)
          · exact .inr (by assumption)
          · cases hs
        · rw [I.sc, I.fn]
          split at hs
          · exact .inr (by assumption)
          · exact .inl hs
          · cases hs
    · rw [if_neg hs]
      exact pg_bad
  · rename_i es k2 p
    by_cases hs : noStar es = true
    · rw [if_pos hs]
      unfold stepGs
      simp only
      refine g_tup I.cx (d_gs I O hs fun e he i hi => List.mem_flatten.mpr ⟨S.gs c e, List.mem_map.mpr ⟨e, he, rfl⟩, hi⟩) ?_ (assign_len hs).2
      rw [(assign_len hs).1, List.length_map]
    · rw [if_neg hs]
      exact pg_bad
  · rename_i o i p
    by_cases hs : isSlice i = true
    · rw [if_pos hs]
      exact pg_bad
    · rw [if_neg hs]
      refine g_sub (W := W) (O.e I o) (O.e I i) fun v => ?_
      cases i <;> first | rfl | exact absurd rfl hs
  · exact pg_bad
/-! ### statements -/
theorem ps_bad {st : Stmt} : PS X st (tS Γ E badS) := s_never
theorem d_block (I : InX Γ (WE0 E) c k X) (hp : PassesOwn (model X.prog X.w) X.A X.env X.xe) (O : SemOk Γ S) : ∀ b : List Stmt, PSs X b (tS Γ E (blockD S c b))
  | [] => ss_nil
  | [s] => ss_one (O.s I hp s)
  | s :: s2 :: r => ss_cons (O.s I hp s) (d_block I hp O (s2 :: r))
theorem swaps_plain {e : Expr} {t : Option Expr} {l : Nat} {env : Env} (h : isComp e = false) : swapsWith e t l env = pure false := by
  cases e <;> first | rfl | cases h
theorem swap_no {tg e : Expr} {env : Env} (h : ∀ ts k p vs k2 p2, ¬ (tg = .Tuple ts k p ∧ e = .Tuple vs k2 p2)) (h' : ∀ ts p vs k2 p2, ¬ (tg = .List ts p ∧ e = .Tuple vs k2 p2)) : swappedStores [tg] e env = pure none := by
  unfold swappedStores
  cases tg <;> first
    | rfl
    | (cases e <;> first
        | rfl
        | exact absurd ⟨rfl, rfl⟩ (h _ _ _ _ _ _)
        | exact absurd ⟨rfl, rfl⟩ (h' _ _ _ _ _))
theorem assign_one {tg : Expr} {env : Env} (h : isStar tg = false) : (assignEach [tg] env).map (·.2) = [assign tg env] := by
  rw [assign_cons h]
  rfl
theorem lcSwap_spec {y : Str} {py pos : Pos} {elt : Expr} {gs : List Comprehension} {scope : Scope} {l : Nat} (I : InX Γ W c k X) : swapsWith (.ListComp elt gs scope pos) (some (.Name y py)) l X.env = pure (lcSwap c y py pos scope) := by
  have hb : X.env.blockKind = .function := by
    unfold Env.blockKind
    rw [I.sc, I.kf]
    rfl
  have hk : X.env.kindOf y = c.sc.names.lookup y := by
    unfold Env.kindOf
    rw [I.sc]
  unfold swapsWith
  simp only [hb, hk]
  rfl

theorem bkind (I : InX Γ W c k X) : X.env.blockKind = .function := by
  unfold Env.blockKind
  rw [I.sc, I.kf]
  rfl
theorem kof (I : InX Γ W c k X) (y : Str) : X.env.kindOf y = c.sc.names.lookup y := by
  unfold Env.kindOf
  rw [I.sc]
theorem any_of {f : Expr → Bool} (hf : ∀ e, isStar e = false → f e = false) : ∀ {vs : List Expr}, noStar vs = true → vs.any f = false
  | [], _ => rfl
  | e :: es, h => by
    obtain ⟨h1, h2⟩ := noStar_cons h
    rw [List.any_cons, hf e h1, any_of hf h2]
    rfl
theorem fm_le {f : Expr → Option Str} (hf : ∀ e, isName e = false → f e = none) : ∀ ts : List Expr, (ts.filterMap f).length ≤ (ts.filter isName).length
  | [] => Nat.le_refl _
  | e :: es => by
    have ih := fm_le hf es
    by_cases h : isName e = true
    · rw [List.filter_cons_of_pos h, List.filterMap_cons]
      split <;> simp <;> omega
    · have h' : isName e = false := by simpa using h
      rw [List.filter_cons_of_neg (by simpa using h), List.filterMap_cons, hf e h']
      exact ih
theorem swap_two (I : InX Γ W c k X) {x y : Str} {px py pt pt2 : Pos} {kt k2 : Nat} {a b : Expr} (h : ((c.sc.names.lookup x == some .local) && (c.sc.names.lookup y == some .local) && (px.line == px.line && py.line == px.line) && !(x == y) && noStar [a, b] && !(foldedForSure 8 a && foldedForSure 8 b) && !(constantsAlone 8 a && constantsAlone 8 b)) = true) :
    swappedStores [.Tuple [.Name x px, .Name y py] kt pt] (.Tuple [a, b] k2 pt2) X.env = pure (some [x, y]) := by
  simp only [Bool.and_eq_true, Bool.not_eq_true', beq_iff_eq, beq_eq_false_iff_ne] at h
  obtain ⟨⟨⟨⟨⟨⟨h1, h2⟩, _, h3⟩, h4⟩, h5⟩, h6⟩, h7⟩ := h
  have k1 : (X.env.kindOf x == some .local) = true := by rw [kof I, h1]; rfl
  have k2 : (X.env.kindOf y == some .local) = true := by rw [kof I, h2]; rfl
  have h5' := h5
  unfold swappedStores
  have e1 : (Expr.Name x px).pos.line = px.line := rfl
  simp only [List.filterMap_cons, List.filterMap_nil, List.head?_cons, Option.map_some, Option.getD_some, e1, k1, k2, h3, beq_self_eq_true, Bool.and_true, if_true, bkind I]
  have ed : ([x, y] : List Str).eraseDups.length = 2 := by
    have hb : (y == x) = false := by rw [beq_eq_false_iff_ne]; exact fun e => h4 e.symm
    simp [List.eraseDups_cons, hb]
  rw [if_neg (by show ¬ (false = true); decide), if_neg, if_neg, if_neg, if_neg]
  · show ¬ (constantsAlone 8 a && (constantsAlone 8 b && true)) = true
    rw [Bool.and_true, h7]
    exact Bool.false_ne_true
  · show ¬ (foldedForSure 8 a && (foldedForSure 8 b && true)) = true
    rw [Bool.and_true, h6]
    exact Bool.false_ne_true
  · rw [ed]
    exact (by decide : ¬ (false = true))
  · intro z
    refine absurd ((any_of ?_ h5').symm.trans z) Bool.false_ne_true
    intro e h
    cases e <;> first | rfl | cases h
theorem swap_not (I : InX Γ W c k X) {ts vs : List Expr} {kt k2 : Nat} {pt pt2 : Pos} (h1 : ts.length = 2 ∨ ts.length = 3) (h2 : vs.length = ts.length) (h3 : noStar vs = true) (h4 : (ts.filter isName).length < ts.length) :
    swappedStores [.Tuple ts kt pt] (.Tuple vs k2 pt2) X.env = pure none := by
  unfold swappedStores
  simp only [bkind I]
  rw [if_neg, if_neg, if_pos]
  · rw [Bool.or_eq_true]
    left
    rw [bne_iff_ne]
    intro z
    have q := fm_le (f := fun
      | .Name id pos => if (X.env.kindOf id == some .local && pos.line == (ts.head?.map (·.pos.line)).getD 0) = true then some id else none
      | _ => none) (fun e h => by cases e <;> first | rfl | cases h) ts
    have q2 := Nat.lt_of_le_of_lt q h4
    exact Nat.ne_of_lt q2 z
  · intro z
    refine absurd ((any_of ?_ h3).symm.trans z) Bool.false_ne_true
    intro e h
    cases e <;> first | rfl | cases h
  · rw [h2]
    rcases h1 with h1 | h1 <;> rw [h1] <;> (show ¬ (false = true); decide)
theorem d_par (I : InX Γ (WE0 E) c k X) (O : SemOk Γ S) {ts vs : List Expr} {k1 k2 : Nat} {p p2 pos : Pos} : PS X (.Assign [.Tuple ts k1 p] (.Tuple vs k2 p2) pos) (tS Γ E (parD S c ts vs (.Tuple ts k1 p) (.Tuple vs k2 p2))) := by
  have hN : X.N.Nodup := by rw [I.N]; exact I.nd
  unfold parD
  split
  · rename_i x px y py a b
    by_cases h : ((c.sc.names.lookup x == some .local) && (c.sc.names.lookup y == some .local) && (px.line == px.line && py.line == px.line) && !(x == y) && noStar [a, b] && !(foldedForSure 8 a && foldedForSure 8 b) && !(constantsAlone 8 a && constantsAlone 8 b)) = true
    · rw [if_pos h]
      have hs := swap_two I (kt := k1) (k2 := k2) (pt := p) (pt2 := p2) h
      simp only [Bool.and_eq_true, Bool.not_eq_true', beq_iff_eq, beq_eq_false_iff_ne] at h
      obtain ⟨⟨⟨⟨⟨⟨h1, h2⟩, _, h3⟩, h4⟩, h5⟩, h6⟩, h7⟩ := h
      obtain ⟨s1, h5⟩ := noStar_cons h5
      obtain ⟨s2, _⟩ := noStar_cons h5
      cases hi : ixOf x c.N with
      | none => exact ps_bad
      | some i =>
        cases hj : ixOf y c.N with
        | none => exact ps_bad
        | some j =>
          have hij : i ≠ j := fun e => by
            have e1 := ixOf_get hi
            have e2 := ixOf_get hj
            rw [e, e2] at e1
            cases e1
            exact h4 rfl
          exact s_par2 I.cx.calm hN (I.nm hi) (I.nm hj) hij (by rw [I.sc]; exact h1) (by rw [I.sc]; exact h2) (a_cons (O.e I a) (a_cons (O.e I b) a_nil (star_cons s2)) (star_cons s1)) hs rfl
    · rw [if_neg h]
      exact ps_bad
  · by_cases h : ts.all isName = true
    · rw [if_pos h]
      exact ps_bad
    · rw [if_neg h]
      by_cases h1 : ((ts.length == 2 || ts.length == 3) && vs.length == ts.length) = true
      · rw [if_pos h1]
        by_cases h2 : (noStar vs && decide ((ts.filter isName).length < ts.length)) = true
        · rw [if_pos h2]
          simp only [Bool.and_eq_true, Bool.or_eq_true, beq_iff_eq, decide_eq_true_eq] at h1 h2
          exact s_asg (O.e I _) (O.g I _) rfl (swap_not I h1.1 h1.2 h2.1 h2.2) rfl
        · rw [if_neg h2]
          exact ps_bad
      · rw [if_neg h1]
        exact ps_bad
theorem d_s (I : InX Γ (WE0 E) c k X) (hp : PassesOwn (model X.prog X.w) X.A X.env X.xe) (O : SemOk Γ S) (x : Stmt) : PS X x (tS Γ E (stepS S c x)) := by
  have hN : X.N.Nodup := by rw [I.N]; exact I.nd
  unfold stepS
  split
  · rename_i e p
    by_cases h : isComp e = true
    · rw [if_pos h]; exact ps_bad
    · rw [if_neg h]
      exact s_expr (O.e I e) (swaps_plain (by simpa using h))
  · exact s_ret (O.e I _)
  · exact s_retN
  · exact s_pass
  · exact s_break
  · exact s_continue
  · exact s_if (O.t I _) (d_block I hp O _) (d_block I hp O _)
  · rename_i tg it body p
    by_cases h : isSet it = true
    · rw [if_pos h]; exact ps_bad
    · rw [if_neg h]
      exact s_for I.cx hp (O.i I tg it) (O.g I tg) (d_block I hp O body) (fold_plain (by simpa using h))
  · exact s_while hp c.wf (O.t I _) (d_block I hp O _)
  · exact d_par I O
  · rename_i y py elt gs scope pos spos
    by_cases h : lcSwap c y py pos scope = true
    · rw [if_pos h]
      split
      · rename_i tg iter ifs
        cases hi : ixOf y c.N with
        | none => exact ps_bad
        | some i =>
          simp only
          have hy : c.sc.names.lookup y = some .local := by
            unfold lcSwap at h
            simp only [Bool.and_eq_true, beq_iff_eq] at h
            exact h.1.1
          have hsw := lcSwap_spec (elt := elt) (gs := [⟨tg, iter, ifs, 0⟩]) (l := spos.line) (py := py) (pos := pos) (scope := scope) (y := y) I
          rw [h] at hsw
          unfold lcD
          by_cases h0 : (blkC c.N c.sc scope (ownOf c.N scope.names) && !isSet iter && ((S.gs (c.blk scope) tg).all fun i => decide (i ∈ (ownOf c.N scope.names).map (·.2))) && decide (ifs.length ≤ 1)) = true
          · simp only [if_pos h0]
            simp only [Bool.and_eq_true, decide_eq_true_eq, Bool.not_eq_true', List.all_eq_true] at h0
            obtain ⟨⟨⟨h1, h2⟩, h3⟩, h4⟩ := h0
            have hk := blk_kind h1
            obtain ⟨tt, t1, t2⟩ := pts_d (S := S) I O hk h4
            exact s_setLc I.cx.calm hN (I.nm hi) (by rw [I.sc]; exact hy) hsw (O.i I tg iter) (by rw [I.N, I.sc]; exact blkOk_by h1) h3 (fun s H C cl fp => O.g (I.blk scope hk s H C cl fp) tg) t1 t2 (fun s H C cl fp => O.e (I.blk scope hk s H C cl fp) elt) (fold_plain h2)
          · simp only [if_neg h0]
            exact ⟨fun pins s σ H D I h => by
              obtain ⟨ρ, as, τ, nx, bk, ct, r, h⟩ := h
              exact h.rt.elim⟩
      · exact ps_bad
    · rw [if_neg h]
      have hsw := lcSwap_spec (elt := elt) (gs := gs) (l := spos.line) (py := py) (pos := pos) (scope := scope) (y := y) I
      rw [show lcSwap c y py pos scope = false by simpa using h] at hsw
      exact s_asg (O.e I _) (O.g I _) hsw rfl rfl
  · rename_i tg e p hx hy
    by_cases h : (isStar tg || isComp e) = true
    · rw [if_pos h]; exact ps_bad
    · rw [if_neg h]
      simp only [Bool.or_eq_true, not_or, Bool.not_eq_true] at h
      split
      · exact ps_bad
      · rename_i hl
        refine s_asg (O.e I _) (O.g I _) (swaps_plain h.2) (swap_no (fun ts k p vs k2 p2 z => ?_) (fun ts p vs k2 p2 z => ?_)) (assign_one h.1)
        · first | exact hx _ _ _ _ _ _ z.1 z.2 | exact hx _ _ _ _ _ _ z.2 z.1 | (obtain ⟨rfl, rfl⟩ := z; exact hx _ _ _ _ _ _ rfl rfl)
        · exact hl _ _ _ _ _ z.1 z.2
  · exact ps_bad
theorem sem_ok : ∀ n, SemOk Γ (sem n)
  | 0 => ⟨fun _ _ => pe_bad, fun _ _ => pt_bad, fun _ _ _ => pi_bad, fun _ _ => pg_bad, fun _ _ _ => ps_bad⟩
  | n + 1 => ⟨fun I x => d_e I (sem_ok n) x, fun I x => d_t I (sem_ok n) x, fun I tg x => d_i I (sem_ok n) tg x, fun I x => d_g I (sem_ok n) x, fun I hp x => d_s I hp (sem_ok n) x⟩
end
/-- THE RULE: a def whose callees keep their mirrors keeps its own -/
theorem fn_den {P : Program} {w : World} {K : PySem.W.Frag} {mg : Str → Option Value} {base : Heap} {T : List NdefX.NTab} {x qual : Str} {st : Stmt} {f : Addr} {fd : FuncData} {ps : List Str} {k : Nat} {c : Den} (F : Fun K x qual st f fd) (S : FnScope c.N ps (defScope st)) (hsc : c.sc = defScope st) (hfn : c.fn = fun _ => true)
    (hl : c.lam = true → ∃ (cc P : Addr) (nm : Nat → Nat → Str), fd.code = .ref cc ∧ LamX.TabB base mg cc P ∧ (P, nm) ∈ T ∧ (∀ l k, nm l k = qual ++ ".<locals>." ++ "<lambda>") ∧ ∀ p ∈ T, p.1 = P → p.2 = nm)
    (hf : ∀ x cl, c.fns.lookup x = some cl → FnC ⟨P, w, base, K, mg, T⟩ k x cl) (hv : ∀ x d, c.gvs.lookup x = some d → GvAt ⟨P, w, base, K, mg, T⟩ x d) (hb : ∀ x ∈ bltNames, mg x = none) :
    FnOk P w K mg base (L2.CX P w) (k + c.lv + 1) f fd ps (spM ⟨P, w, base, K, mg, T⟩ ps.length (denFn c (defBody st))) := by
  refine fn_mirrorC F S fun X E I hc hq => ?_
  have IX : InX ⟨P, w, base, K, mg, T⟩ (WE0 E) c k X := ⟨I.cx, I.N, S.nd, by rw [I.sc, hsc], by rw [hsc]; exact S.kind, by rw [I.fn, hfn], I.room, fun z => ?_, hf, hv, hb⟩
  · exact d_block IX I.own (sem_ok 40) _
  · obtain ⟨cc, P', nm, h1, h2, h3, h4, h5⟩ := hl z
    exact ⟨cc, P', nm, by rw [hc]; exact h1, by rw [I.cx.base, I.cx.mg]; exact h2, h3, fun l k => by rw [hq]; exact h4 l k, h5⟩
end Rx
end
section
set_option maxRecDepth 100000
set_option maxHeartbeats 4000000
/-! RxM: from the head's facts to the defs, to the law. -/
namespace Rx
open PySem PySem.Spec PyProof.Rows L2

abbrev vE (i : Nat) : Rho → M D := fun ρ => getS ρ i
abbrev kE (d : D) : Rho → M D := fun _ => M.pure d
/-- the j-th argument of the call that the i-th statement returns -/
def lamArg (b : List Stmt) (i j : Nat) : Expr := match b[i]? with
  | some (.Return (some (.Call _ es _ _)) _) => es.getD j (.Constant .none 0 ⟨0, 0, 0, 0⟩)
  | _ => .Constant .none 0 ⟨0, 0, 0, 0⟩
/-- the law's data by name: facts, defs, the defs that make lambdas -/
structure Hx where
  fa : List He.Fa
  fn : List He.DefD
  tf : List He.Defn
  ex : PySem.W.Frag → Bool
def lamQ (x : Str) : Nat → Nat → Str := fun _ _ => x ++ ".<locals>." ++ "<lambda>"
def Hx.tabs (h : Hx) (K : PySem.W.Frag) : List NdefX.NTab := h.tf.map fun p => ((He.cT K p).2, lamQ p.1)
/-- what the head tells -/
structure HdOk (h : Hx) (Γ : Gx) : Prop where
  says : ∃ (w : World) (hp : Heap), He.SaysX h.fa h.fn [] h.tf h.ex w hp Γ.K ∧ Γ.K.In hp ∧ hp.Ns mainGlobals Γ.mg
  tabs : ∀ p ∈ h.tf, LamX.TabB Γ.base Γ.mg (He.cT Γ.K p).1 (He.cT Γ.K p).2
  T : Γ.T = h.tabs Γ.K
  nd : (h.tf.map fun p => (He.cT Γ.K p).2).Nodup
  free : ∀ x ∈ bltNames, .free x ∈ h.fa
section
variable {h : Hx} {Γ : Gx}
theorem fun_of {K : PySem.W.Frag} {x q : Str} {st : Stmt} {f : Addr} {fd : FuncData} (F : FunD K x q (defArgs st) (defBody st) (defScope st) [] [] f fd) : Fun K x q st f fd := by
  obtain ⟨⟨oc, od, dV, kV, doc, pm, an, cdv, ct, osl, rfl, lk, hcd, hD, hK⟩, kp⟩ := F
  rcases hD with ⟨_, rfl⟩ | ⟨e, _⟩
  · exact ⟨⟨oc, od, kV, doc, pm, an, cdv, ct, osl, rfl, lk, hcd⟩, kp⟩
  · exact absurd rfl e
theorem HdOk.blt (H : HdOk h Γ) : ∀ x ∈ bltNames, Γ.mg x = none := by
  intro x hx
  obtain ⟨w, hp, c, KX, G⟩ := H.says
  exact He.free_ok KX G (c.t.d.facts (H.free x hx))
theorem HdOk.gInt (H : HdOk h Γ) {x : Str} {i : Int} (hf : .int x i ∈ h.fa) : GvAt Γ x (.int i) := by
  obtain ⟨w, hp, c, KX, G⟩ := H.says
  obtain ⟨t, e⟩ := He.int_ok KX G (c.t.d.facts hf)
  exact ⟨.int i, _, e, ⟨t, rfl⟩, fun _ _ => rfl⟩
theorem HdOk.gStr (H : HdOk h Γ) {x z : Str} (hf : .str x z ∈ h.fa) : GvAt Γ x (.str z) := by
  obtain ⟨w, hp, c, KX, G⟩ := H.says
  obtain ⟨t, e⟩ := He.str_ok KX G (c.t.d.facts hf)
  exact ⟨.str z, _, e, ⟨t, rfl⟩, fun _ _ => rfl⟩
def dOf : He.Dv → Option D
  | .non => some .non
  | .bl b => some (.bl b)
  | .int i => some (.int i)
  | .str s => some (.str s)
  | _ => none
def dsOf : List He.Dv → Option (List D)
  | [] => some []
  | v :: r => match dOf v, dsOf r with
    | some d, some ds => some (d :: ds)
    | _, _ => none
theorem dOf_rep {K : PySem.W.Frag} {as : Ads} {G : Hp} {v : He.Dv} {d : D} (e : dOf v = some d) : Rep K as G d (v.v K) := by
  cases v <;> cases e <;> exact rfl
theorem dsOf_reps {K : PySem.W.Frag} {as : Ads} {G : Hp} : ∀ {vs : List He.Dv} {ds : List D}, dsOf vs = some ds → Reps K as G ds (vs.map (He.Dv.v K))
  | [], ds, e => by cases e; exact rfl
  | v :: r, ds, e => by
    unfold dsOf at e
    cases e1 : dOf v with
    | none => rw [e1] at e; cases e
    | some d =>
      rw [e1] at e
      cases e2 : dsOf r with
      | none => rw [e2] at e; cases e
      | some ds' =>
        rw [e2] at e
        cases e
        exact Reps.cons (dOf_rep e1) (dsOf_reps e2)
theorem HdOk.gTup (H : HdOk h Γ) {x : Str} {vs : List He.Dv} {ds : List D} (hf : .glo x ∈ h.fa) (he : ∀ K, h.ex K = true → He.tupB K x vs = true) (e : dsOf vs = some ds) : GvAt Γ x (.tup ds) := by
  obtain ⟨w, hp, c, KX, G⟩ := H.says
  have g := He.glo_ok KX G (c.t.d.facts hf)
  exact ⟨.ref (He.ga Γ.K x), _, g, rfl, fun as G' => ⟨_, _, rfl, He.tupB_ok (he _ c.more) G', dsOf_reps e⟩⟩
/-! ### the table of defs -/
def TabOk (Γ : Gx) (k : Nat) (t : List (Str × Callee)) : Prop := ∀ x cl, t.lookup x = some cl → FnC Γ k x cl
theorem TabOk.nil {k : Nat} : TabOk Γ k [] := fun _ _ e => nomatch e
theorem TabOk.mono {j k : Nat} {t : List (Str × Callee)} (T : TabOk Γ j t) (hk : j ≤ k) : TabOk Γ k t := fun x cl e => (T x cl e).mono hk
theorem TabOk.cons {j k : Nat} {t : List (Str × Callee)} {x : Str} {cl : Callee} (T : TabOk Γ j t) (F : FnC Γ k x cl) (hk : j ≤ k) : TabOk Γ k ((x, cl) :: t) := fun y cl' e => by
  rw [List.lookup_cons] at e
  cases q : y == x with
  | true =>
    rw [q] at e
    cases e
    rw [beq_iff_eq.mp q]
    exact F
  | false =>
    rw [q] at e
    exact (T y cl' e).mono hk
def GvOk (Γ : Gx) (t : List (Str × D)) : Prop := ∀ x d, t.lookup x = some d → GvAt Γ x d
theorem GvOk.nil : GvOk Γ [] := fun _ _ e => nomatch e
theorem GvOk.cons {t : List (Str × D)} {x : Str} {d : D} (T : GvOk Γ t) (F : GvAt Γ x d) : GvOk Γ ((x, d) :: t) := fun y d' e => by
  rw [List.lookup_cons] at e
  cases q : y == x with
  | true =>
    rw [q] at e
    cases e
    rw [beq_iff_eq.mp q]
    exact F
  | false =>
    rw [q] at e
    exact T y d' e
abbrev defD (x : Str) (st : Stmt) : He.DefD := ⟨(x, none), x, x, defArgs st, defBody st, defScope st, [], []⟩
/-- a look at a def and its den: bind -/
def denC (c : Den) (st : Stmt) (ps : List Str) : Bool := HandS_scC c.N ps (defScope st) && decide (plainPs (defArgs st) = some ps) && decide ps.Nodup
where HandS_scC (N P : List Str) (sc : Scope) : Bool := C8.scC N P sc
abbrev Pats (ps : List Str) (st : Stmt) (x : Str) (pats : List (Nat × List Str × List Nat)) : Prop := ∀ p ∈ pats, ∀ (kV doc pm : Value) (an : Option Addr) (cdv ct : Value) (us ws : List Value), us.length = p.1 → ws.length = p.2.1.length →
  bindArgs (PySem.W.fnOf x x (defArgs st) (defBody st) (defScope st) .none kV doc pm an cdv ct) ⟨us, p.2.1.zip ws⟩ = pure (ps.zip (pickL p.2.2 (us ++ ws)))
theorem fnAt (H : HdOk h Γ) {x : Str} {st : Stmt} {ps : List Str} {pats : List (Nat × List Str × List Nat)} (hd : defD x st ∈ h.fn) (hg : .glo x ∈ h.fa) (hp : plainPs (defArgs st) = some ps) (nd : ps.Nodup) (kp : Pats ps st x pats) :
    ∃ (f : Addr) (fd : FuncData), Fun Γ.K x x st f fd ∧ f = He.fAd Γ.K (x, none) ∧ Γ.mg x = some (.ref f) ∧ PySem.W.keepIn Γ.K (.ref f) = true ∧ Binds Γ.K fd ps [] ∧
    ∀ p ∈ pats, KBn Γ.K fd ps p.1 p.2.1 (fun us ws => pickL p.2.2 (us ++ ws)) (fun vs zs => pickL p.2.2 (vs ++ zs)) := by
  obtain ⟨w, hp', c, KX, G⟩ := H.says
  obtain ⟨fd, F⟩ := c.t.d.defs hd
  have F' : Fun Γ.K x x st (He.fAd Γ.K (x, none)) fd := fun_of F
  refine ⟨_, fd, F', rfl, He.glo_ok KX G (c.t.d.facts hg), F.kp, ?_, fun p hp => kbn_of F' (kp p hp)⟩
  exact F'.binds fun kV doc pm an cdv ct us hl => bind_ps (by exact hp) rfl nd hl
/-- a def whose callees keep their mirrors -/
theorem fnok_of (H : HdOk h Γ) {x : Str} {st : Stmt} {ps : List Str} {c : Den} {k : Nat} {fd : FuncData} {f : Addr} (F : Fun Γ.K x x st f fd) (ef : f = He.fAd Γ.K (x, none)) (h1 : C8.scC c.N ps (defScope st) = true) (hsc : c.sc = defScope st) (hfn : c.fn = fun _ => true)
    (hl : c.lam = true → (x, none) ∈ h.tf) (ht : TabOk Γ k c.fns) (hv : GvOk Γ c.gvs) : FnOk Γ.prog Γ.w Γ.K Γ.mg Γ.base (L2.CX Γ.prog Γ.w) (k + c.lv + 1) f fd ps (spM Γ ps.length (denFn c (defBody st))) := by
  refine fn_den (T := Γ.T) F (C8.fnScope_by h1) hsc hfn (fun z => ?_) ht hv H.blt
  have hm := hl z
  obtain ⟨⟨oc, od, kV, doc, pm, an, cdv, ct, osl, e, lk, hcd⟩, _⟩ := F
  obtain ⟨cc, hcc⟩ := He.codeIn_ref hcd
  have efd : fd.code = .ref cc := by rw [e]; exact hcc
  rw [ef] at lk
  have ecc := He.codeOf_eq (p := (x, none)) lk efd
  refine ⟨cc, (He.cT Γ.K (x, none)).2, lamQ x, efd, ?_, ?_, fun _ _ => rfl, ?_⟩
  · have := H.tabs _ hm
    rw [show (He.cT Γ.K (x, none)).1 = cc from ecc] at this
    exact this
  · rw [H.T]
    exact List.mem_map.mpr ⟨(x, none), hm, rfl⟩
  · intro p hp ep
    rw [H.T] at hp
    obtain ⟨q, hq, rfl⟩ := List.mem_map.mp hp
    have : q = (x, none) := by
      have nd := H.nd
      obtain ⟨i, hi, e1⟩ := List.getElem_of_mem hq
      obtain ⟨j, hj, e2⟩ := List.getElem_of_mem hm
      have pw := List.pairwise_iff_getElem.mp nd
      have ep : (He.cT Γ.K q).2 = (He.cT Γ.K (x, none)).2 := ep
      rcases Nat.lt_trichotomy i j with l | l | l
      · exact (pw i j (by simpa using hi) (by simpa using hj) l (by rw [List.getElem_map, List.getElem_map, e1, e2]; exact ep)).elim
      · subst l; rw [← e1, ← e2]
      · exact (pw j i (by simpa using hj) (by simpa using hi) l (by rw [List.getElem_map, List.getElem_map, e1, e2]; exact ep.symm)).elim
    rw [this]
/-- a def whose callees keep their mirrors -/
theorem fnc_of (H : HdOk h Γ) {x : Str} {st : Stmt} {ps : List Str} {pats : List (Nat × List Str × List Nat)} {c : Den} {k : Nat} (hd : defD x st ∈ h.fn) (hg : .glo x ∈ h.fa) (hc : denC c st ps = true) (kp : Pats ps st x pats) (hsc : c.sc = defScope st) (hfn : c.fn = fun _ => true)
    (hl : c.lam = true → (x, none) ∈ h.tf) (ht : TabOk Γ k c.fns) (hv : GvOk Γ c.gvs) : FnC Γ (k + c.lv + 1) x ⟨ps, pats, denFn c (defBody st)⟩ := by
  unfold denC at hc
  simp only [Bool.and_eq_true, decide_eq_true_eq] at hc
  obtain ⟨⟨h1, h2⟩, h3⟩ := hc
  obtain ⟨f, fd, F, ef, m1, m2, m3, m4⟩ := fnAt H hd hg h2 h3 kp
  exact ⟨f, fd, fnok_of H F ef h1 hsc hfn hl ht hv, m1, m2, m3, m4⟩
/-- a def of which nothing is known -/
theorem fnc_bad (H : HdOk h Γ) {x : Str} {st : Stmt} {ps : List Str} {pats : List (Nat × List Str × List Nat)} {k : Nat} (hd : defD x st ∈ h.fn) (hg : .glo x ∈ h.fa) (hc : (decide (plainPs (defArgs st) = some ps) && decide ps.Nodup) = true) (kp : Pats ps st x pats) : FnC Γ k x ⟨ps, pats, fun _ => M.bad⟩ := by
  simp only [Bool.and_eq_true, decide_eq_true_eq] at hc
  obtain ⟨f, fd, F, ef, m1, m2, m3, m4⟩ := fnAt H hd hg hc.1 hc.2 kp
  refine ⟨f, fd, ⟨fun vs H Q E z => ?_, fun A outer s H args us vs Q E _ _ _ _ z => ?_⟩, m1, m2, m3, m4⟩
  · obtain ⟨ds, as, τ, e, _⟩ := z
    exact e
  · obtain ⟨ds, as, τ, _, _, _, z⟩ := z
    exact z.elim
end
/-! ### the end -/
/-- the law's def, at the head -/
theorem law_at {l : PySem.W.OpenLaw} {h : Hx} {n k : Nat} {w : World} {mg : Str → Option Value} {fa : Addr} {hp : Heap} {st : Stmt} {m : List D → M D} {p : Str} {K : PySem.W.Frag} (c : He.SaysX h.fa h.fn [] h.tf h.ex w hp K) (KX : K.In hp) (G : hp.Ns mainGlobals mg) (hmg : mg "law" = some (.ref fa))
    (hnd : ∀ K, h.ex K = true → (h.tf.map fun p => (He.cT K p).2).Nodup) (hfree : ∀ x ∈ bltNames, .free x ∈ h.fa)
    (hF : ∀ base fd, HdOk h ⟨l.prog, w, base, K, mg, h.tabs K⟩ → Fun K "law" "law" st (He.fAd K ("law", none)) fd → FnOk l.prog w K mg base (L2.CX l.prog w) k (He.fAd K ("law", none)) fd [p] (spM ⟨l.prog, w, base, K, mg, h.tabs K⟩ 1 m)) (hd : defD "law" st ∈ h.fn) (hg : .glo "law" ∈ h.fa) (hps : plainPs (defArgs st) = some [p])
    (hm : ∀ ns : List Int, ns.length ≤ n → (∀ z ∈ ns, Builtin.Int.intBits z ≤ 1048576) → ∃ τ, m [.scr ns] [] = .ok (.bl true) τ) : LamX.LawAtS l w K (L2.CX l.prog w) k n p mg fa hp := by
  obtain ⟨fd, F⟩ := c.t.d.defs hd
  have F' : Fun K "law" "law" st (He.fAd K ("law", none)) fd := fun_of F
  have e0 := He.glo_ok KX G (c.t.d.facts hg)
  have ea : fa = He.ga K "law" := by
    rw [hmg] at e0
    cases e0
    rfl
  refine ⟨fd, h.tf.map (He.cT K), fun vs H Q E => vs.length = 1 ∧ ∀ base, spM ⟨l.prog, w, base, K, mg, h.tabs K⟩ 1 m vs H Q E, ?_, ?_, ?_, ?_, ?_, ?_⟩
  · intro q hq
    obtain ⟨p', hp', rfl⟩ := List.mem_map.mp hq
    exact c.empty p' hp'
  · intro q hq
    obtain ⟨p', hp', rfl⟩ := List.mem_map.mp hq
    exact c.out p' hp'
  · intro q hq
    obtain ⟨p', hp', rfl⟩ := List.mem_map.mp hq
    exact PySem.W.codeHd_of_K KX (c.hd p' hp')
  · intro s u
    obtain ⟨⟨oc, od, kV, doc, pm, an, cdv, ct, osl, e, lk, hcd⟩, _⟩ := F'
    rw [e]
    have b : bindArgs (PySem.W.fnOf "law" "law" (defArgs st) (defBody st) (defScope st) .none kV doc pm an cdv ct) ⟨[u], []⟩ = pure ([p].zip [u]) := bind_ps (by exact hps) rfl (by simp) rfl
    exact .of_eq b
  · intro H a ns hl hb hT hS
    refine ⟨rfl, fun base => ⟨[.scr ns], ⟨[], []⟩, [], rfl, ⟨_, _, rfl, ⟨a, rfl, ?_⟩, rfl⟩, ⟨rfl, by simp, fun b hb => (by cases hb), fun n so a h1 _ => (by simp at h1), ?_⟩, ?_⟩⟩
    · rcases hS with (z | ⟨o, z⟩) | z
      · exact .inl (.inl (Pu_of z (by simp) fun _ z => nomatch z))
      · exact .inl (.inr ⟨o, Pu_of z (by simp) fun _ z => nomatch z⟩)
      · exact .inr z
    · intro q hq
      obtain ⟨p', hp', rfl⟩ := List.mem_map.mp hq
      exact NdefX.TabN.nil (hT _ (List.mem_map.mpr ⟨p', hp', rfl⟩))
    · obtain ⟨τ, e⟩ := hm ns hl hb
      rw [e]
      intro y as' H' _ _ hy
      exact hy
  · intro base hKb hGb hTB
    have HO : HdOk h ⟨l.prog, w, base, K, mg, h.tabs K⟩ := ⟨⟨w, hp, c, KX, G⟩, fun p' hp' => hTB _ (List.mem_map.mpr ⟨p', hp', rfl⟩), rfl, hnd K c.more, hfree⟩
    rw [ea]
    exact (hF base fd HO F').imp fun vs H Q E z => z.2 base
theorem cx_false {P : Program} {w : World} {H : Hp} {s : Shared} {e : Value} {s' : Shared} (h : L2.CX P w [] H s (fun _ _ _ => False) e s') : False := by
  obtain ⟨a, B, H', cls, d, _, _, _, _, _, _, _, z⟩ := h
  exact z
end Rx
end
section
set_option maxRecDepth 100000
set_option maxHeartbeats 4000000
/-! RxN: equality of data; runs by steps. -/
namespace Rx
open PySem PySem.Spec PyProof.Rows L2
open PySem.W (Dat kqdP kqdPs kqdOk kqd_eqv kqd_lay)
mutual
def dat : D → Dat
  | .int i => .int i
  | .str s => .str s
  | .tup ds => .tuple (dats ds)
  | .lst ds => .list (dats ds)
  | _ => .none
def dats : List D → List Dat
  | [] => []
  | d :: ds => dat d :: dats ds
end
mutual
/-- data of none, numbers, texts, tuples and lists of such, at most n deep -/
def okD : Nat → D → Bool
  | _, .non => true
  | _, .int _ => true
  | _, .str s => PyData.strOk s
  | n + 1, .tup ds => okDs n ds
  | n + 1, .lst ds => okDs n ds
  | _, _ => false
def okDs : Nat → List D → Bool
  | _, [] => true
  | n, d :: ds => okD n d && okDs n ds
end
mutual
theorem okD_dat : ∀ (n : Nat) (d : D), okD n d = true → kqdOk n (dat d) = true ∧ toPy d = some (kqdP (dat d))
  | n, .non, h => by cases n <;> exact ⟨rfl, rfl⟩
  | n, .int i, h => by cases n <;> exact ⟨rfl, rfl⟩
  | n, .str s, h => by cases n <;> (unfold okD at h; exact ⟨h, rfl⟩)
  | n + 1, .tup ds, h => by
    unfold okD at h
    obtain ⟨h1, h2⟩ := okDs_dats n ds h
    refine ⟨?_, ?_⟩
    · unfold dat kqdOk; exact h1
    · unfold toPy dat kqdP; rw [h2]; rfl
  | n + 1, .lst ds, h => by
    unfold okD at h
    obtain ⟨h1, h2⟩ := okDs_dats n ds h
    refine ⟨?_, ?_⟩
    · unfold dat kqdOk; exact h1
    · unfold toPy dat kqdP; rw [h2]; rfl
  | 0, .tup ds, h => by simp [okD] at h
  | 0, .lst ds, h => by simp [okD] at h
  | n, .bl b, h => by simp [okD] at h
  | n, .loc b, h => by simp [okD] at h
  | n, .glo b, h => by simp [okD] at h
  | n, .ty b, h => by simp [okD] at h
  | n, .clo b c, h => by simp [okD] at h
  | n, .scr b, h => by simp [okD] at h
theorem okDs_dats : ∀ (n : Nat) (ds : List D), okDs n ds = true → (dats ds).all (kqdOk n) = true ∧ toPys ds = some (kqdPs (dats ds))
  | n, [], h => ⟨rfl, rfl⟩
  | n, d :: ds, h => by
    unfold okDs at h
    simp only [Bool.and_eq_true] at h
    obtain ⟨h1, h2⟩ := okD_dat n d h.1
    obtain ⟨h3, h4⟩ := okDs_dats n ds h.2
    refine ⟨?_, ?_⟩
    · unfold dats; simp only [List.all_cons, h1, h3, Bool.and_self]
    · unfold toPys dats kqdPs; rw [h2, h4]
end
mutual
theorem dat_inj : ∀ (n : Nat) (d e : D), okD n d = true → okD n e = true → dat d = dat e → d = e
  | n, .non, e, h, h', q => by cases e <;> first | rfl | (simp [dat] at q; done) | (exfalso; clear q; cases n <;> simp [okD] at h')
  | n, .int i, e, h, h', q => by cases e <;> first | (simp [dat] at q; rw [q]) | (simp [dat] at q)
  | n, .str i, e, h, h', q => by cases e <;> first | (simp [dat] at q; rw [q]) | (simp [dat] at q)
  | n + 1, .tup ds, e, h, h', q => by
    cases e <;> first | (simp [dat] at q) | skip
    rename_i es
    unfold okD at h h'
    rw [dats_inj n ds es h h' q]
  | n + 1, .lst ds, e, h, h', q => by
    cases e <;> first | (simp [dat] at q) | skip
    rename_i es
    unfold okD at h h'
    rw [dats_inj n ds es h h' q]
  | 0, .tup ds, e, h, _, _ => by simp [okD] at h
  | 0, .lst ds, e, h, _, _ => by simp [okD] at h
  | n, .bl b, e, h, _, _ => by simp [okD] at h
  | n, .loc b, e, h, _, _ => by simp [okD] at h
  | n, .glo b, e, h, _, _ => by simp [okD] at h
  | n, .ty b, e, h, _, _ => by simp [okD] at h
  | n, .clo b c, e, h, _, _ => by simp [okD] at h
  | n, .scr b, e, h, _, _ => by simp [okD] at h
theorem dats_inj : ∀ (n : Nat) (d e : List D), okDs n d = true → okDs n e = true → dats d = dats e → d = e
  | n, [], [], _, _, _ => rfl
  | n, [], e :: es, _, _, q => by simp [dats] at q
  | n, d :: ds, [], _, _, q => by simp [dats] at q
  | n, d :: ds, e :: es, h, h', q => by
    simp only [okDs, Bool.and_eq_true] at h h'
    simp only [dats, List.cons.injEq] at q
    rw [dat_inj n d e h.1 h'.1 q.1, dats_inj n ds es h.2 h'.2 q.2]
end
theorem eqO_ok {n : Nat} {d e : D} (hn : n ≤ 64) (h : okD n d = true) (h' : okD n e = true) : ∃ b, eqO d e = some b ∧ (b = true ↔ d = e) := by
  obtain ⟨h1, h2⟩ := okD_dat n d h
  obtain ⟨h3, h4⟩ := okD_dat n e h'
  have sh : ∀ x, kqdOk n x = true → SeqAt.shaped (kqdP x) = true := fun x hx => by
    obtain ⟨a, b⟩ := kqd_lay n x hx
    unfold SeqAt.shaped
    rw [a, Bool.true_and]
    exact decide_eq_true (Nat.le_trans b hn)
  refine ⟨PyData.eqv (kqdP (dat d)) (kqdP (dat e)), ?_, (kqd_eqv n _ _ n h1 h3).trans ⟨fun q => dat_inj n d e h h' q, fun q => by rw [q]⟩⟩
  unfold eqO
  rw [h2, h4]
  show (if (SeqAt.shaped _ && SeqAt.shaped _) = true then _ else _) = _
  rw [sh _ h1, sh _ h3]
  rfl
theorem eqO_yes {n : Nat} {d : D} (hn : n ≤ 64) (h : okD n d = true) : eqO d d = some true := by
  obtain ⟨b, h1, h2⟩ := eqO_ok hn h h
  rw [h1, h2.mpr rfl]
theorem eqO_no {n : Nat} {d e : D} (hn : n ≤ 64) (h : okD n d = true) (h' : okD n e = true) (ne : d ≠ e) : eqO d e = some false := by
  obtain ⟨b, h1, h2⟩ := eqO_ok hn h h'
  cases b with
  | true => exact absurd (h2.mp rfl) ne
  | false => exact h1
theorem okDs_ints : ∀ (n : Nat) (xs : List Int), okDs n (xs.map .int) = true
  | n, [] => by simp [okDs]
  | n, x :: xs => by
    simp only [List.map_cons, okDs, Bool.and_eq_true]
    exact ⟨by cases n <;> rfl, okDs_ints n xs⟩
end Rx
end
section
set_option maxRecDepth 100000
set_option maxHeartbeats 4000000
namespace Z
open PySem PySem.Spec PyProof.Rows L2 Rx
def top (i : Nat) : Stmt := (PySem.W.OpenLaw.row PySem.Challenge.rw_shiftranges_k82_whole_texts_of_two_group).prog.main.body.getD i (.Pass ⟨0, 0, 0, 0⟩)

def g_MOST_VALUE : D := .int (999)
def g_MOST_GROUP : D := .int (9)
def g_MOST_BOTH : D := .int (10)
def g_ONE : D := .str "one"
def g_TWO : D := .str "two"
def g_HEADS : D := .tup [(.str "one"), (.str "two")]
def g_FIGURES : D := .str "0123456789"
def g_MOST_FIGURES : D := .int (400)
def gv : List (Str × D) := [("MOST_VALUE", g_MOST_VALUE), ("MOST_GROUP", g_MOST_GROUP), ("MOST_BOTH", g_MOST_BOTH), ("ONE", g_ONE), ("TWO", g_TWO), ("HEADS", g_HEADS), ("FIGURES", g_FIGURES), ("MOST_FIGURES", g_MOST_FIGURES)]
abbrev s__law_same : Stmt := top 39
abbrev s__law_cup : Stmt := top 37
abbrev s__law_of : Stmt := top 38
abbrev s__law_value : Stmt := top 40
abbrev s__law_group : Stmt := top 41
abbrev s__law_two : Stmt := top 42
abbrev s__law_line : Stmt := top 43
abbrev s_is_whole : Stmt := top 5
abbrev s_is_between : Stmt := top 6
abbrev s_is_value : Stmt := top 14
abbrev s_wrong_in : Stmt := top 9
abbrev s_wrong_in_rising : Stmt := top 15
abbrev s_wrong_in_group : Stmt := top 16
abbrev s_check_group : Stmt := top 19
abbrev s_are_too_many : Stmt := top 17
abbrev s_check_two : Stmt := top 20
abbrev s_line_of : Stmt := top 31
abbrev s_group_rows : Stmt := top 33
abbrev s_is_tuple_of : Stmt := top 7
abbrev s_is_pair : Stmt := top 8
abbrev s_is_figures : Stmt := top 27
abbrev s_is_whole_word : Stmt := top 28
abbrev s_told_by : Stmt := top 29
abbrev s_wrong_in_rows : Stmt := top 30
abbrev s_read_groups : Stmt := top 34
abbrev s__law_right : Stmt := top 44
abbrev s__law_tub : Stmt := top 36
abbrev s_law : Stmt := top 45
def hx : Hx where
  fa := [.glo "_law_same", .glo "_law_cup", .glo "_law_of", .glo "_law_value", .glo "_law_group", .glo "_law_two", .glo "_law_line", .glo "is_whole", .glo "is_between", .glo "is_value", .glo "wrong_in", .glo "wrong_in_rising", .glo "wrong_in_group", .glo "check_group", .glo "are_too_many", .glo "check_two", .glo "line_of", .glo "group_rows", .glo "is_tuple_of", .glo "is_pair", .glo "is_figures", .glo "is_whole_word", .glo "told_by", .glo "wrong_in_rows", .glo "read_groups", .glo "_law_right", .glo "_law_tub", .glo "law", .int "MOST_VALUE" (999), .int "MOST_GROUP" (9), .int "MOST_BOTH" (10), .str "ONE" "one", .str "TWO" "two", .glo "HEADS", .str "FIGURES" "0123456789", .int "MOST_FIGURES" (400)] ++ bltNames.map .free
  fn := [defD "_law_same" s__law_same, defD "_law_cup" s__law_cup, defD "_law_of" s__law_of, defD "_law_value" s__law_value, defD "_law_group" s__law_group, defD "_law_two" s__law_two, defD "_law_line" s__law_line, defD "is_whole" s_is_whole, defD "is_between" s_is_between, defD "is_value" s_is_value, defD "wrong_in" s_wrong_in, defD "wrong_in_rising" s_wrong_in_rising, defD "wrong_in_group" s_wrong_in_group, defD "check_group" s_check_group, defD "are_too_many" s_are_too_many, defD "check_two" s_check_two, defD "line_of" s_line_of, defD "group_rows" s_group_rows, defD "is_tuple_of" s_is_tuple_of, defD "is_pair" s_is_pair, defD "is_figures" s_is_figures, defD "is_whole_word" s_is_whole_word, defD "told_by" s_told_by, defD "wrong_in_rows" s_wrong_in_rows, defD "read_groups" s_read_groups, defD "_law_right" s__law_right, defD "_law_tub" s__law_tub, defD "law" s_law]
  tf := [("wrong_in_rising", none)]
  ex := fun K => decide (([("wrong_in_rising", none)] : List He.Defn).map fun p => (He.cT K p).2).Nodup && He.tupB K "HEADS" [.str "one", .str "two"]
section
variable {Γ : Gx} (H : HdOk hx Γ)
include H
theorem gv_ok : GvOk Γ gv := by
  refine GvOk.cons (GvOk.cons (GvOk.cons (GvOk.cons (GvOk.cons (GvOk.cons (GvOk.cons (GvOk.cons (GvOk.nil) (H.gInt (List.mem_append_left _ (List.mem_of_getElem? (i := 35) rfl)))) (H.gStr (List.mem_append_left _ (List.mem_of_getElem? (i := 34) rfl)))) (H.gTup (vs := [.str "one", .str "two"]) (List.mem_append_left _ (List.mem_of_getElem? (i := 33) rfl)) (fun K z => ?_) rfl)) (H.gStr (List.mem_append_left _ (List.mem_of_getElem? (i := 32) rfl)))) (H.gStr (List.mem_append_left _ (List.mem_of_getElem? (i := 31) rfl)))) (H.gInt (List.mem_append_left _ (List.mem_of_getElem? (i := 30) rfl)))) (H.gInt (List.mem_append_left _ (List.mem_of_getElem? (i := 29) rfl)))) (H.gInt (List.mem_append_left _ (List.mem_of_getElem? (i := 28) rfl)))
  · simp only [hx, Bool.and_eq_true] at z
    first | exact z.2 | exact z.1.2 | exact z.1.1.2
end
/-! ### _law_same -/
def c__law_same (ih : List D → M D) : Den := { N := ["told", "due", "one", "two"], sc := defScope s__law_same, fn := fun _ => true, gvs := gv, lo := [], wf := 0, lam := false, lv := 0, fns := ("_law_same", ⟨["told", "due"], [], ih⟩) :: ([] : List (Str × Rx.Callee)) }
def m__law_same : Nat → List D → M D
  | 0 => fun _ => M.bad
  | n + 1 => runS ["told", "due", "one", "two"] (seqS (ifS (orsT [truT (callV isiV [.one (vE 1), .one (kE (.ty "tuple"))]), truT (callV isiV [.one (vE 1), .one (kE (.ty "list"))])]) (seqS (ifS (orsT [cmpT .NotEq (callV isiV [.one (vE 0), .one (kE (.ty "tuple"))]) (callV isiV [.one (vE 1), .one (kE (.ty "tuple"))]), cmpT .NotEq (callV isiV [.one (vE 0), .one (kE (.ty "list"))]) (callV isiV [.one (vE 1), .one (kE (.ty "list"))])]) (retS (kE (.bl false))) (passS)) (retS (andsE [cmpE .Eq (callV lenV [.one (vE 0)]) (callV lenV [.one (vE 1)]), callV allV [.one (lcE (zipI (vE 0) (vE 1)) (tupG [nameG 2, nameG 3]) (yesT) (callF (m__law_same n) [.one (vE 2), .one (vE 3)]) [2, 3])]]))) (passS)) (seqS (ifS (cmpT .Is (vE 1) (kE .non)) (retS (cmpE .Is (vE 0) (kE .non))) (passS)) (seqS (ifS (truT (callV isiV [.one (vE 1), .one (kE (.ty "int"))])) (retS (andsE [callV isiV [.one (vE 0), .one (kE (.ty "int"))], cmpE .Eq (callV isiV [.one (vE 0), .one (kE (.ty "bool"))]) (callV isiV [.one (vE 1), .one (kE (.ty "bool"))]), cmpE .Eq (vE 0) (vE 1)])) (passS)) (retS (andsE [callV isiV [.one (vE 1), .one (kE (.ty "str"))], callV isiV [.one (vE 0), .one (kE (.ty "str"))], cmpE .Eq (vE 0) (vE 1)])))))
theorem e__law_same (n : Nat) : denFn (c__law_same (m__law_same n)) (defBody s__law_same) = m__law_same (n + 1) := by kernel_rfl
theorem fr__law_same {Γ : Gx} (H : HdOk hx Γ) : ∀ n, FnC Γ (0 + n) "_law_same" ⟨["told", "due"], [], m__law_same n⟩
  | 0 => fnc_bad (st := s__law_same) H (List.mem_of_getElem? (i := 0) rfl) (List.mem_append_left _ (List.mem_of_getElem? (i := 0) rfl)) (by kernel_rfl) (fun p hp => by cases hp)
  | n + 1 => by
    have h := fnc_of (k := 0 + n) (pats := []) (c := c__law_same (m__law_same n)) (st := s__law_same) (ps := ["told", "due"]) H (List.mem_of_getElem? (i := 0) rfl) (List.mem_append_left _ (List.mem_of_getElem? (i := 0) rfl)) (by kernel_rfl) (fun p hp => by cases hp) rfl rfl (fun z => nomatch z) (TabOk.cons (TabOk.nil : TabOk Γ 0 []) (fr__law_same H n) (Nat.le_add_right _ _)) (gv_ok H)
    rw [e__law_same] at h
    exact h
def t__law_same : List (Str × Rx.Callee) := ("_law_same", ⟨["told", "due"], [], m__law_same 8⟩) :: ([] : List (Str × Rx.Callee))
theorem tab__law_same {Γ : Gx} (H : HdOk hx Γ) : TabOk Γ 8 t__law_same := TabOk.cons (TabOk.nil : TabOk Γ 0 []) (fr__law_same H 8) (by decide)
/-! ### _law_cup -/
def c__law_cup : Den := { N := ["tub", "many", "figure"], sc := defScope s__law_cup, fn := fun _ => true, gvs := gv, lo := [], wf := 0, lam := false, lv := 0, fns := t__law_same }
def m__law_cup : List D → M D := runS ["tub", "many", "figure"] (seqS (ifS (cmpT .Gt (ixE (vE 0) (kE (.int (0)))) (kE (.int (0)))) (seqS (asgS (callV divmodV [.one (ixE (vE 0) (kE (.int (0)))), .one (vE 1)]) (tupG [subG (vE 0) (kE (.int (0))), nameG 2])) (retS (vE 2))) (passS)) (seqS (asgS (binE .Add (ixE (vE 0) (kE (.int (2)))) (kE (.int (1)))) (subG (vE 0) (kE (.int (2))))) (seqS (asgS (binE .Mod (callV intV [.one (binE .Add (binE .Add (binE .Mult (ixE (vE 0) (kE (.int (1)))) (binE .Add (binE .Mod (callV intV [.one (ixE (vE 0) (kE (.int (1))))]) (kE (.int (9859)))) (kE (.int (39019))))) (binE .Mult (kE (.int (10151))) (ixE (vE 0) (kE (.int (2)))))) (kE (.int (163))))]) (kE (.int (2147482873)))) (subG (vE 0) (kE (.int (1))))) (retS (binE .Mod (callV intV [.one (binE .FloorDiv (ixE (vE 0) (kE (.int (1)))) (kE (.int (467))))]) (vE 1))))))
theorem e__law_cup : denFn c__law_cup (defBody s__law_cup) = m__law_cup := by kernel_rfl
def t__law_cup : List (Str × Rx.Callee) := ("_law_cup", ⟨["tub", "many"], [], m__law_cup⟩) :: t__law_same
theorem f__law_cup {Γ : Gx} (H : HdOk hx Γ) : FnC Γ 9 "_law_cup" ⟨["tub", "many"], [], m__law_cup⟩ := by
  have h := fnc_of (k := 8) (pats := []) (c := c__law_cup) (st := s__law_cup) (ps := ["tub", "many"]) H (List.mem_of_getElem? (i := 1) rfl) (List.mem_append_left _ (List.mem_of_getElem? (i := 1) rfl)) (by kernel_rfl) (fun p hp => by cases hp) rfl rfl (fun z => nomatch z) (tab__law_same H) (gv_ok H)
  rw [e__law_cup] at h
  exact h
theorem tab__law_cup {Γ : Gx} (H : HdOk hx Γ) : TabOk Γ 9 t__law_cup := TabOk.cons (tab__law_same H) (f__law_cup H) (by decide)
/-! ### _law_of -/
def c__law_of : Den := { N := ["tub", "some"], sc := defScope s__law_of, fn := fun _ => true, gvs := gv, lo := [], wf := 0, lam := false, lv := 0, fns := t__law_cup }
def m__law_of : List D → M D := runS ["tub", "some"] (retS (ixE (vE 1) (callF m__law_cup [.one (vE 0), .one (callV lenV [.one (vE 1)])])))
theorem e__law_of : denFn c__law_of (defBody s__law_of) = m__law_of := by kernel_rfl
def t__law_of : List (Str × Rx.Callee) := ("_law_of", ⟨["tub", "some"], [], m__law_of⟩) :: t__law_cup
theorem f__law_of {Γ : Gx} (H : HdOk hx Γ) : FnC Γ 10 "_law_of" ⟨["tub", "some"], [], m__law_of⟩ := by
  have h := fnc_of (k := 9) (pats := []) (c := c__law_of) (st := s__law_of) (ps := ["tub", "some"]) H (List.mem_of_getElem? (i := 2) rfl) (List.mem_append_left _ (List.mem_of_getElem? (i := 2) rfl)) (by kernel_rfl) (fun p hp => by cases hp) rfl rfl (fun z => nomatch z) (tab__law_cup H) (gv_ok H)
  rw [e__law_of] at h
  exact h
theorem tab__law_of {Γ : Gx} (H : HdOk hx Γ) : TabOk Γ 10 t__law_of := TabOk.cons (tab__law_cup H) (f__law_of H) (by decide)
/-! ### _law_value -/
def c__law_value : Den := { N := ["tub"], sc := defScope s__law_value, fn := fun _ => true, gvs := gv, lo := [], wf := 0, lam := false, lv := 0, fns := t__law_of }
def m__law_value : List D → M D := runS ["tub"] (retS (callF m__law_of [.one (vE 0), .one (lstE [.one (callF m__law_cup [.one (vE 0), .one (kE (.int (5)))]), .one (callF m__law_cup [.one (vE 0), .one (kE (.int (5)))]), .one (binE .Sub (callF m__law_cup [.one (vE 0), .one (kE (.int (20)))]) (kE (.int (9)))), .one (callF m__law_of [.one (vE 0), .one (lstE [.one (negE (kE (.int (999)))), .one (kE (.int (999))), .one (kE (.int (0))), .one (binE .Sub (callF m__law_cup [.one (vE 0), .one (kE (.int (1999)))]) (kE (.int (999))))])])])]))
theorem e__law_value : denFn c__law_value (defBody s__law_value) = m__law_value := by kernel_rfl
def t__law_value : List (Str × Rx.Callee) := ("_law_value", ⟨["tub"], [], m__law_value⟩) :: t__law_of
theorem f__law_value {Γ : Gx} (H : HdOk hx Γ) : FnC Γ 11 "_law_value" ⟨["tub"], [], m__law_value⟩ := by
  have h := fnc_of (k := 10) (pats := []) (c := c__law_value) (st := s__law_value) (ps := ["tub"]) H (List.mem_of_getElem? (i := 3) rfl) (List.mem_append_left _ (List.mem_of_getElem? (i := 3) rfl)) (by kernel_rfl) (fun p hp => by cases hp) rfl rfl (fun z => nomatch z) (tab__law_of H) (gv_ok H)
  rw [e__law_value] at h
  exact h
theorem tab__law_value {Γ : Gx} (H : HdOk hx Γ) : TabOk Γ 11 t__law_value := TabOk.cons (tab__law_of H) (f__law_value H) (by decide)
/-! ### _law_group -/
def c__law_group : Den := { N := ["tub", "most", "lap"], sc := defScope s__law_group, fn := fun _ => true, gvs := gv, lo := [], wf := 0, lam := false, lv := 0, fns := t__law_value }
def m__law_group : List D → M D := runS ["tub", "most", "lap"] (retS (callV tupleV [.one (callV sortedV [.one (lcE (rng1I (binE .Add (kE (.int (1))) (callF m__law_cup [.one (vE 0), .one (vE 1)]))) (nameG 2) (yesT) (callF m__law_value [.one (vE 0)]) [2])])]))
theorem e__law_group : denFn c__law_group (defBody s__law_group) = m__law_group := by kernel_rfl
def t__law_group : List (Str × Rx.Callee) := ("_law_group", ⟨["tub", "most"], [], m__law_group⟩) :: t__law_value
theorem f__law_group {Γ : Gx} (H : HdOk hx Γ) : FnC Γ 12 "_law_group" ⟨["tub", "most"], [], m__law_group⟩ := by
  have h := fnc_of (k := 11) (pats := []) (c := c__law_group) (st := s__law_group) (ps := ["tub", "most"]) H (List.mem_of_getElem? (i := 4) rfl) (List.mem_append_left _ (List.mem_of_getElem? (i := 4) rfl)) (by kernel_rfl) (fun p hp => by cases hp) rfl rfl (fun z => nomatch z) (tab__law_value H) (gv_ok H)
  rw [e__law_group] at h
  exact h
theorem tab__law_group {Γ : Gx} (H : HdOk hx Γ) : TabOk Γ 12 t__law_group := TabOk.cons (tab__law_value H) (f__law_group H) (by decide)
/-! ### _law_two -/
def c__law_two : Den := { N := ["tub", "one"], sc := defScope s__law_two, fn := fun _ => true, gvs := gv, lo := [], wf := 0, lam := false, lv := 0, fns := t__law_group }
def m__law_two : List D → M D := runS ["tub", "one"] (seqS (asgS (callF m__law_group [.one (vE 0), .one (kE (.int (5)))]) (nameG 1)) (retS (tupE [.one (vE 1), .one (callF m__law_group [.one (vE 0), .one (callV minV [.one (kE (.int (5))), .one (binE .Sub (kE (.int (10))) (callV lenV [.one (vE 1)]))])])])))
theorem e__law_two : denFn c__law_two (defBody s__law_two) = m__law_two := by kernel_rfl
def t__law_two : List (Str × Rx.Callee) := ("_law_two", ⟨["tub"], [], m__law_two⟩) :: t__law_group
theorem f__law_two {Γ : Gx} (H : HdOk hx Γ) : FnC Γ 13 "_law_two" ⟨["tub"], [], m__law_two⟩ := by
  have h := fnc_of (k := 12) (pats := []) (c := c__law_two) (st := s__law_two) (ps := ["tub"]) H (List.mem_of_getElem? (i := 5) rfl) (List.mem_append_left _ (List.mem_of_getElem? (i := 5) rfl)) (by kernel_rfl) (fun p hp => by cases hp) rfl rfl (fun z => nomatch z) (tab__law_group H) (gv_ok H)
  rw [e__law_two] at h
  exact h
theorem tab__law_two {Γ : Gx} (H : HdOk hx Γ) : TabOk Γ 13 t__law_two := TabOk.cons (tab__law_group H) (f__law_two H) (by decide)
/-! ### _law_line -/
def c__law_line : Den := { N := ["word", "group", "value"], sc := defScope s__law_line, fn := fun _ => true, gvs := gv, lo := [], wf := 0, lam := false, lv := 0, fns := t__law_two }
def m__law_line : List D → M D := runS ["word", "group", "value"] (retS (methV "str" joinV (kE (.str " ")) [.one (binE .Add (lstE [.one (vE 0)]) (lcE (anyI (vE 1)) (nameG 2) (yesT) (callV strV [.one (vE 2)]) [2]))]))
theorem e__law_line : denFn c__law_line (defBody s__law_line) = m__law_line := by kernel_rfl
def t__law_line : List (Str × Rx.Callee) := ("_law_line", ⟨["word", "group"], [], m__law_line⟩) :: t__law_two
theorem f__law_line {Γ : Gx} (H : HdOk hx Γ) : FnC Γ 14 "_law_line" ⟨["word", "group"], [], m__law_line⟩ := by
  have h := fnc_of (k := 13) (pats := []) (c := c__law_line) (st := s__law_line) (ps := ["word", "group"]) H (List.mem_of_getElem? (i := 6) rfl) (List.mem_append_left _ (List.mem_of_getElem? (i := 6) rfl)) (by kernel_rfl) (fun p hp => by cases hp) rfl rfl (fun z => nomatch z) (tab__law_two H) (gv_ok H)
  rw [e__law_line] at h
  exact h
theorem tab__law_line {Γ : Gx} (H : HdOk hx Γ) : TabOk Γ 14 t__law_line := TabOk.cons (tab__law_two H) (f__law_line H) (by decide)
/-! ### is_whole -/
def c_is_whole : Den := { N := ["value"], sc := defScope s_is_whole, fn := fun _ => true, gvs := gv, lo := [], wf := 0, lam := false, lv := 0, fns := t__law_line }
def m_is_whole : List D → M D := runS ["value"] (retS (andsE [callV isiV [.one (vE 0), .one (kE (.ty "int"))], notE (callV isiV [.one (vE 0), .one (kE (.ty "bool"))])]))
theorem e_is_whole : denFn c_is_whole (defBody s_is_whole) = m_is_whole := by kernel_rfl
def t_is_whole : List (Str × Rx.Callee) := ("is_whole", ⟨["value"], [], m_is_whole⟩) :: t__law_line
theorem f_is_whole {Γ : Gx} (H : HdOk hx Γ) : FnC Γ 15 "is_whole" ⟨["value"], [], m_is_whole⟩ := by
  have h := fnc_of (k := 14) (pats := []) (c := c_is_whole) (st := s_is_whole) (ps := ["value"]) H (List.mem_of_getElem? (i := 7) rfl) (List.mem_append_left _ (List.mem_of_getElem? (i := 7) rfl)) (by kernel_rfl) (fun p hp => by cases hp) rfl rfl (fun z => nomatch z) (tab__law_line H) (gv_ok H)
  rw [e_is_whole] at h
  exact h
theorem tab_is_whole {Γ : Gx} (H : HdOk hx Γ) : TabOk Γ 15 t_is_whole := TabOk.cons (tab__law_line H) (f_is_whole H) (by decide)
/-! ### is_between -/
def c_is_between : Den := { N := ["value", "least", "most"], sc := defScope s_is_between, fn := fun _ => true, gvs := gv, lo := [], wf := 0, lam := false, lv := 0, fns := t_is_whole }
def m_is_between : List D → M D := runS ["value", "least", "most"] (retS (andsE [callF m_is_whole [.one (vE 0)], chainE .LtE .LtE (vE 1) (vE 0) (vE 2)]))
theorem e_is_between : denFn c_is_between (defBody s_is_between) = m_is_between := by kernel_rfl
def t_is_between : List (Str × Rx.Callee) := ("is_between", ⟨["value", "least", "most"], [], m_is_between⟩) :: t_is_whole
theorem f_is_between {Γ : Gx} (H : HdOk hx Γ) : FnC Γ 16 "is_between" ⟨["value", "least", "most"], [], m_is_between⟩ := by
  have h := fnc_of (k := 15) (pats := []) (c := c_is_between) (st := s_is_between) (ps := ["value", "least", "most"]) H (List.mem_of_getElem? (i := 8) rfl) (List.mem_append_left _ (List.mem_of_getElem? (i := 8) rfl)) (by kernel_rfl) (fun p hp => by cases hp) rfl rfl (fun z => nomatch z) (tab_is_whole H) (gv_ok H)
  rw [e_is_between] at h
  exact h
theorem tab_is_between {Γ : Gx} (H : HdOk hx Γ) : TabOk Γ 16 t_is_between := TabOk.cons (tab_is_whole H) (f_is_between H) (by decide)
/-! ### is_value -/
def c_is_value : Den := { N := ["value"], sc := defScope s_is_value, fn := fun _ => true, gvs := gv, lo := [], wf := 0, lam := false, lv := 0, fns := t_is_between }
def m_is_value : List D → M D := runS ["value"] (retS (callF m_is_between [.one (vE 0), .one (negE (kE g_MOST_VALUE)), .one (kE g_MOST_VALUE)]))
theorem e_is_value : denFn c_is_value (defBody s_is_value) = m_is_value := by kernel_rfl
def t_is_value : List (Str × Rx.Callee) := ("is_value", ⟨["value"], [], m_is_value⟩) :: t_is_between
theorem f_is_value {Γ : Gx} (H : HdOk hx Γ) : FnC Γ 17 "is_value" ⟨["value"], [], m_is_value⟩ := by
  have h := fnc_of (k := 16) (pats := []) (c := c_is_value) (st := s_is_value) (ps := ["value"]) H (List.mem_of_getElem? (i := 9) rfl) (List.mem_append_left _ (List.mem_of_getElem? (i := 9) rfl)) (by kernel_rfl) (fun p hp => by cases hp) rfl rfl (fun z => nomatch z) (tab_is_between H) (gv_ok H)
  rw [e_is_value] at h
  exact h
theorem tab_is_value {Γ : Gx} (H : HdOk hx Γ) : TabOk Γ 17 t_is_value := TabOk.cons (tab_is_between H) (f_is_value H) (by decide)
/-! ### wrong_in -/
def c_wrong_in : Den := { N := ["value", "least", "most", "is_right", "index", "each"], sc := defScope s_wrong_in, fn := fun _ => true, gvs := gv, lo := [], wf := 0, lam := false, lv := 1, fns := t_is_value }
def m_wrong_in : List D → M D := runS ["value", "least", "most", "is_right", "index", "each"] (seqS (ifS (orsT [notT (truT (callV isiV [.one (vE 0), .one (kE (.ty "tuple"))])), cmpT .Lt (callV lenV [.one (vE 0)]) (vE 1)]) (retS (lstE [.one (kE .non)])) (passS)) (seqS (forS (enumI (vE 0)) (tupG [nameG 4, nameG 5]) (ifS (orsT [cmpT .Eq (vE 4) (vE 2), notT (truT (cloF (applyD (sem 34) c_wrong_in) 3 [.one (slE (vE 0) none (some (vE 4))), .one (vE 5)]))]) (retS (lstE [.one (vE 4)])) (passS))) (retS (lstE []))))
theorem e_wrong_in : denFn c_wrong_in (defBody s_wrong_in) = m_wrong_in := by kernel_rfl
def t_wrong_in : List (Str × Rx.Callee) := ("wrong_in", ⟨["value", "least", "most", "is_right"], [], m_wrong_in⟩) :: t_is_value
theorem f_wrong_in {Γ : Gx} (H : HdOk hx Γ) : FnC Γ 19 "wrong_in" ⟨["value", "least", "most", "is_right"], [], m_wrong_in⟩ := by
  have h := fnc_of (k := 17) (pats := []) (c := c_wrong_in) (st := s_wrong_in) (ps := ["value", "least", "most", "is_right"]) H (List.mem_of_getElem? (i := 10) rfl) (List.mem_append_left _ (List.mem_of_getElem? (i := 10) rfl)) (by kernel_rfl) (fun p hp => by cases hp) rfl rfl (fun z => nomatch z) (tab_is_value H) (gv_ok H)
  rw [e_wrong_in] at h
  exact h
theorem tab_wrong_in {Γ : Gx} (H : HdOk hx Γ) : TabOk Γ 19 t_wrong_in := TabOk.cons (tab_is_value H) (f_wrong_in H) (by decide)
/-! ### wrong_in_rising -/
def l_wrong_in_rising : D := .clo (lamArg (defBody s_wrong_in_rising) 1 3) []
def c_wrong_in_rising : Den := { N := ["value", "least", "most"], sc := defScope s_wrong_in_rising, fn := fun _ => true, gvs := gv, lo := [], wf := 0, lam := true, lv := 0, fns := t_wrong_in }
def m_wrong_in_rising : List D → M D := runS ["value", "least", "most"] (seqS (ifS (orsT [notT (truT (callV isiV [.one (vE 0), .one (kE (.ty "tuple"))])), notT (chainT .LtE .LtE (vE 1) (callV lenV [.one (vE 0)]) (vE 2))]) (retS (lstE [.one (kE .non)])) (passS)) (retS (callF m_wrong_in [.one (vE 0), .one (vE 1), .one (kE .non), .one (kE (l_wrong_in_rising))])))
theorem e_wrong_in_rising : denFn c_wrong_in_rising (defBody s_wrong_in_rising) = m_wrong_in_rising := by kernel_rfl
def t_wrong_in_rising : List (Str × Rx.Callee) := ("wrong_in_rising", ⟨["value", "least", "most"], [], m_wrong_in_rising⟩) :: t_wrong_in
theorem f_wrong_in_rising {Γ : Gx} (H : HdOk hx Γ) : FnC Γ 20 "wrong_in_rising" ⟨["value", "least", "most"], [], m_wrong_in_rising⟩ := by
  have h := fnc_of (k := 19) (pats := []) (c := c_wrong_in_rising) (st := s_wrong_in_rising) (ps := ["value", "least", "most"]) H (List.mem_of_getElem? (i := 11) rfl) (List.mem_append_left _ (List.mem_of_getElem? (i := 11) rfl)) (by kernel_rfl) (fun p hp => by cases hp) rfl rfl (fun _ => List.mem_of_getElem? (i := 0) rfl) (tab_wrong_in H) (gv_ok H)
  rw [e_wrong_in_rising] at h
  exact h
theorem tab_wrong_in_rising {Γ : Gx} (H : HdOk hx Γ) : TabOk Γ 20 t_wrong_in_rising := TabOk.cons (tab_wrong_in H) (f_wrong_in_rising H) (by decide)
/-! ### wrong_in_group -/
def c_wrong_in_group : Den := { N := ["value"], sc := defScope s_wrong_in_group, fn := fun _ => true, gvs := gv, lo := [], wf := 0, lam := false, lv := 0, fns := t_wrong_in_rising }
def m_wrong_in_group : List D → M D := runS ["value"] (retS (callF m_wrong_in_rising [.one (vE 0), .one (kE (.int (1))), .one (kE g_MOST_GROUP)]))
theorem e_wrong_in_group : denFn c_wrong_in_group (defBody s_wrong_in_group) = m_wrong_in_group := by kernel_rfl
def t_wrong_in_group : List (Str × Rx.Callee) := ("wrong_in_group", ⟨["value"], [], m_wrong_in_group⟩) :: t_wrong_in_rising
theorem f_wrong_in_group {Γ : Gx} (H : HdOk hx Γ) : FnC Γ 21 "wrong_in_group" ⟨["value"], [], m_wrong_in_group⟩ := by
  have h := fnc_of (k := 20) (pats := []) (c := c_wrong_in_group) (st := s_wrong_in_group) (ps := ["value"]) H (List.mem_of_getElem? (i := 12) rfl) (List.mem_append_left _ (List.mem_of_getElem? (i := 12) rfl)) (by kernel_rfl) (fun p hp => by cases hp) rfl rfl (fun z => nomatch z) (tab_wrong_in_rising H) (gv_ok H)
  rw [e_wrong_in_group] at h
  exact h
theorem tab_wrong_in_group {Γ : Gx} (H : HdOk hx Γ) : TabOk Γ 21 t_wrong_in_group := TabOk.cons (tab_wrong_in_rising H) (f_wrong_in_group H) (by decide)
/-! ### check_group -/
def c_check_group : Den := { N := ["one", "index"], sc := defScope s_check_group, fn := fun _ => true, gvs := gv, lo := [], wf := 0, lam := false, lv := 0, fns := t_wrong_in_group }
def m_check_group : List D → M D := runS ["one", "index"] (forS (anyI (callF m_wrong_in_group [.one (vE 0)])) (nameG 1) (badS))
theorem e_check_group : denFn c_check_group (defBody s_check_group) = m_check_group := by kernel_rfl
def t_check_group : List (Str × Rx.Callee) := ("check_group", ⟨["one"], [], m_check_group⟩) :: t_wrong_in_group
theorem f_check_group {Γ : Gx} (H : HdOk hx Γ) : FnC Γ 22 "check_group" ⟨["one"], [], m_check_group⟩ := by
  have h := fnc_of (k := 21) (pats := []) (c := c_check_group) (st := s_check_group) (ps := ["one"]) H (List.mem_of_getElem? (i := 13) rfl) (List.mem_append_left _ (List.mem_of_getElem? (i := 13) rfl)) (by kernel_rfl) (fun p hp => by cases hp) rfl rfl (fun z => nomatch z) (tab_wrong_in_group H) (gv_ok H)
  rw [e_check_group] at h
  exact h
theorem tab_check_group {Γ : Gx} (H : HdOk hx Γ) : TabOk Γ 22 t_check_group := TabOk.cons (tab_wrong_in_group H) (f_check_group H) (by decide)
/-! ### are_too_many -/
def c_are_too_many : Den := { N := ["one", "two"], sc := defScope s_are_too_many, fn := fun _ => true, gvs := gv, lo := [], wf := 0, lam := false, lv := 0, fns := t_check_group }
def m_are_too_many : List D → M D := runS ["one", "two"] (retS (cmpE .Gt (binE .Add (callV lenV [.one (vE 0)]) (callV lenV [.one (vE 1)])) (kE g_MOST_BOTH)))
theorem e_are_too_many : denFn c_are_too_many (defBody s_are_too_many) = m_are_too_many := by kernel_rfl
def t_are_too_many : List (Str × Rx.Callee) := ("are_too_many", ⟨["one", "two"], [], m_are_too_many⟩) :: t_check_group
theorem f_are_too_many {Γ : Gx} (H : HdOk hx Γ) : FnC Γ 23 "are_too_many" ⟨["one", "two"], [], m_are_too_many⟩ := by
  have h := fnc_of (k := 22) (pats := []) (c := c_are_too_many) (st := s_are_too_many) (ps := ["one", "two"]) H (List.mem_of_getElem? (i := 14) rfl) (List.mem_append_left _ (List.mem_of_getElem? (i := 14) rfl)) (by kernel_rfl) (fun p hp => by cases hp) rfl rfl (fun z => nomatch z) (tab_check_group H) (gv_ok H)
  rw [e_are_too_many] at h
  exact h
theorem tab_are_too_many {Γ : Gx} (H : HdOk hx Γ) : TabOk Γ 23 t_are_too_many := TabOk.cons (tab_check_group H) (f_are_too_many H) (by decide)
/-! ### check_two -/
def c_check_two : Den := { N := ["one", "two"], sc := defScope s_check_two, fn := fun _ => true, gvs := gv, lo := [], wf := 0, lam := false, lv := 0, fns := t_are_too_many }
def m_check_two : List D → M D := runS ["one", "two"] (seqS (dropS (callF m_check_group [.one (vE 0)])) (seqS (dropS (callF m_check_group [.one (vE 1)])) (ifS (truT (callF m_are_too_many [.one (vE 0), .one (vE 1)])) (badS) (passS))))
theorem e_check_two : denFn c_check_two (defBody s_check_two) = m_check_two := by kernel_rfl
def t_check_two : List (Str × Rx.Callee) := ("check_two", ⟨["one", "two"], [], m_check_two⟩) :: t_are_too_many
theorem f_check_two {Γ : Gx} (H : HdOk hx Γ) : FnC Γ 24 "check_two" ⟨["one", "two"], [], m_check_two⟩ := by
  have h := fnc_of (k := 23) (pats := []) (c := c_check_two) (st := s_check_two) (ps := ["one", "two"]) H (List.mem_of_getElem? (i := 15) rfl) (List.mem_append_left _ (List.mem_of_getElem? (i := 15) rfl)) (by kernel_rfl) (fun p hp => by cases hp) rfl rfl (fun z => nomatch z) (tab_are_too_many H) (gv_ok H)
  rw [e_check_two] at h
  exact h
theorem tab_check_two {Γ : Gx} (H : HdOk hx Γ) : TabOk Γ 24 t_check_two := TabOk.cons (tab_are_too_many H) (f_check_two H) (by decide)
/-! ### line_of -/
def c_line_of : Den := { N := ["head", "values", "value"], sc := defScope s_line_of, fn := fun _ => true, gvs := gv, lo := [], wf := 0, lam := false, lv := 0, fns := t_check_two }
def m_line_of : List D → M D := runS ["head", "values", "value"] (retS (methV "str" joinV (kE (.str " ")) [.one (lstE [.one (vE 0), .star (lcE (anyI (vE 1)) (nameG 2) (yesT) (callV strV [.one (vE 2)]) [2])])]))
theorem e_line_of : denFn c_line_of (defBody s_line_of) = m_line_of := by kernel_rfl
def t_line_of : List (Str × Rx.Callee) := ("line_of", ⟨["head", "values"], [], m_line_of⟩) :: t_check_two
theorem f_line_of {Γ : Gx} (H : HdOk hx Γ) : FnC Γ 25 "line_of" ⟨["head", "values"], [], m_line_of⟩ := by
  have h := fnc_of (k := 24) (pats := []) (c := c_line_of) (st := s_line_of) (ps := ["head", "values"]) H (List.mem_of_getElem? (i := 16) rfl) (List.mem_append_left _ (List.mem_of_getElem? (i := 16) rfl)) (by kernel_rfl) (fun p hp => by cases hp) rfl rfl (fun z => nomatch z) (tab_check_two H) (gv_ok H)
  rw [e_line_of] at h
  exact h
theorem tab_line_of {Γ : Gx} (H : HdOk hx Γ) : TabOk Γ 25 t_line_of := TabOk.cons (tab_check_two H) (f_line_of H) (by decide)
/-! ### group_rows -/
def c_group_rows : Den := { N := ["one", "two"], sc := defScope s_group_rows, fn := fun _ => true, gvs := gv, lo := [], wf := 0, lam := false, lv := 0, fns := t_line_of }
def m_group_rows : List D → M D := runS ["one", "two"] (seqS (dropS (callF m_check_two [.one (vE 0), .one (vE 1)])) (retS (tupE [.one (callF m_line_of [.one (kE g_ONE), .one (vE 0)]), .one (callF m_line_of [.one (kE g_TWO), .one (vE 1)])])))
theorem e_group_rows : denFn c_group_rows (defBody s_group_rows) = m_group_rows := by kernel_rfl
def t_group_rows : List (Str × Rx.Callee) := ("group_rows", ⟨["one", "two"], [(0, ["two", "one"], [1, 0])], m_group_rows⟩) :: t_line_of
theorem f_group_rows {Γ : Gx} (H : HdOk hx Γ) : FnC Γ 26 "group_rows" ⟨["one", "two"], [(0, ["two", "one"], [1, 0])], m_group_rows⟩ := by
  have h := fnc_of (k := 25) (pats := [(0, ["two", "one"], [1, 0])]) (c := c_group_rows) (st := s_group_rows) (ps := ["one", "two"]) H (List.mem_of_getElem? (i := 17) rfl) (List.mem_append_left _ (List.mem_of_getElem? (i := 17) rfl)) (by kernel_rfl) (fun p hp => by
      simp only [List.mem_cons, List.not_mem_nil, or_false] at hp
      subst hp
      · exact fun _ _ _ _ _ _ us ws h1 h2 => match us, ws, h1, h2 with | [], [_, _], _, _ => rfl) rfl rfl (fun z => nomatch z) (tab_line_of H) (gv_ok H)
  rw [e_group_rows] at h
  exact h
theorem tab_group_rows {Γ : Gx} (H : HdOk hx Γ) : TabOk Γ 26 t_group_rows := TabOk.cons (tab_line_of H) (f_group_rows H) (by decide)
/-! ### is_tuple_of -/
def c_is_tuple_of : Den := { N := ["value", "many"], sc := defScope s_is_tuple_of, fn := fun _ => true, gvs := gv, lo := [], wf := 0, lam := false, lv := 0, fns := t_group_rows }
def m_is_tuple_of : List D → M D := runS ["value", "many"] (retS (andsE [callV isiV [.one (vE 0), .one (kE (.ty "tuple"))], cmpE .Eq (callV lenV [.one (vE 0)]) (vE 1)]))
theorem e_is_tuple_of : denFn c_is_tuple_of (defBody s_is_tuple_of) = m_is_tuple_of := by kernel_rfl
def t_is_tuple_of : List (Str × Rx.Callee) := ("is_tuple_of", ⟨["value", "many"], [], m_is_tuple_of⟩) :: t_group_rows
theorem f_is_tuple_of {Γ : Gx} (H : HdOk hx Γ) : FnC Γ 27 "is_tuple_of" ⟨["value", "many"], [], m_is_tuple_of⟩ := by
  have h := fnc_of (k := 26) (pats := []) (c := c_is_tuple_of) (st := s_is_tuple_of) (ps := ["value", "many"]) H (List.mem_of_getElem? (i := 18) rfl) (List.mem_append_left _ (List.mem_of_getElem? (i := 18) rfl)) (by kernel_rfl) (fun p hp => by cases hp) rfl rfl (fun z => nomatch z) (tab_group_rows H) (gv_ok H)
  rw [e_is_tuple_of] at h
  exact h
theorem tab_is_tuple_of {Γ : Gx} (H : HdOk hx Γ) : TabOk Γ 27 t_is_tuple_of := TabOk.cons (tab_group_rows H) (f_is_tuple_of H) (by decide)
/-! ### is_pair -/
def c_is_pair : Den := { N := ["value"], sc := defScope s_is_pair, fn := fun _ => true, gvs := gv, lo := [], wf := 0, lam := false, lv := 0, fns := t_is_tuple_of }
def m_is_pair : List D → M D := runS ["value"] (retS (callF m_is_tuple_of [.one (vE 0), .one (kE (.int (2)))]))
theorem e_is_pair : denFn c_is_pair (defBody s_is_pair) = m_is_pair := by kernel_rfl
def t_is_pair : List (Str × Rx.Callee) := ("is_pair", ⟨["value"], [], m_is_pair⟩) :: t_is_tuple_of
theorem f_is_pair {Γ : Gx} (H : HdOk hx Γ) : FnC Γ 28 "is_pair" ⟨["value"], [], m_is_pair⟩ := by
  have h := fnc_of (k := 27) (pats := []) (c := c_is_pair) (st := s_is_pair) (ps := ["value"]) H (List.mem_of_getElem? (i := 19) rfl) (List.mem_append_left _ (List.mem_of_getElem? (i := 19) rfl)) (by kernel_rfl) (fun p hp => by cases hp) rfl rfl (fun z => nomatch z) (tab_is_tuple_of H) (gv_ok H)
  rw [e_is_pair] at h
  exact h
theorem tab_is_pair {Γ : Gx} (H : HdOk hx Γ) : TabOk Γ 28 t_is_pair := TabOk.cons (tab_is_tuple_of H) (f_is_pair H) (by decide)
/-! ### is_figures -/
def c_is_figures : Den := { N := ["word", "sign"], sc := defScope s_is_figures, fn := fun _ => true, gvs := gv, lo := [], wf := 0, lam := false, lv := 0, fns := t_is_pair }
def m_is_figures : List D → M D := runS ["word", "sign"] (seqS (ifS (orsT [cmpT .Eq (vE 0) (kE (.str "")), cmpT .Gt (callV lenV [.one (vE 0)]) (kE g_MOST_FIGURES), notT (truT (callV allV [.one (lcE (anyI (vE 0)) (nameG 1) (yesT) (cmpE .In (vE 1) (kE g_FIGURES)) [1])]))]) (retS (kE (.bl false))) (passS)) (retS (orsE [cmpE .Eq (vE 0) (kE (.str "0")), cmpE .NotEq (ixE (vE 0) (kE (.int (0)))) (kE (.str "0"))])))
theorem e_is_figures : denFn c_is_figures (defBody s_is_figures) = m_is_figures := by kernel_rfl
def t_is_figures : List (Str × Rx.Callee) := ("is_figures", ⟨["word"], [], m_is_figures⟩) :: t_is_pair
theorem f_is_figures {Γ : Gx} (H : HdOk hx Γ) : FnC Γ 29 "is_figures" ⟨["word"], [], m_is_figures⟩ := by
  have h := fnc_of (k := 28) (pats := []) (c := c_is_figures) (st := s_is_figures) (ps := ["word"]) H (List.mem_of_getElem? (i := 20) rfl) (List.mem_append_left _ (List.mem_of_getElem? (i := 20) rfl)) (by kernel_rfl) (fun p hp => by cases hp) rfl rfl (fun z => nomatch z) (tab_is_pair H) (gv_ok H)
  rw [e_is_figures] at h
  exact h
theorem tab_is_figures {Γ : Gx} (H : HdOk hx Γ) : TabOk Γ 29 t_is_figures := TabOk.cons (tab_is_pair H) (f_is_figures H) (by decide)
/-! ### is_whole_word -/
def c_is_whole_word : Den := { N := ["word"], sc := defScope s_is_whole_word, fn := fun _ => true, gvs := gv, lo := [], wf := 0, lam := false, lv := 0, fns := t_is_figures }
def m_is_whole_word : List D → M D := runS ["word"] (retS (orsE [callF m_is_figures [.one (vE 0)], andsE [cmpE .Eq (slE (vE 0) none (some (kE (.int (1))))) (kE (.str "-")), cmpE .NotEq (slE (vE 0) (some (kE (.int (1)))) none) (kE (.str "0")), callF m_is_figures [.one (slE (vE 0) (some (kE (.int (1)))) none)]]]))
theorem e_is_whole_word : denFn c_is_whole_word (defBody s_is_whole_word) = m_is_whole_word := by kernel_rfl
def t_is_whole_word : List (Str × Rx.Callee) := ("is_whole_word", ⟨["word"], [], m_is_whole_word⟩) :: t_is_figures
theorem f_is_whole_word {Γ : Gx} (H : HdOk hx Γ) : FnC Γ 30 "is_whole_word" ⟨["word"], [], m_is_whole_word⟩ := by
  have h := fnc_of (k := 29) (pats := []) (c := c_is_whole_word) (st := s_is_whole_word) (ps := ["word"]) H (List.mem_of_getElem? (i := 21) rfl) (List.mem_append_left _ (List.mem_of_getElem? (i := 21) rfl)) (by kernel_rfl) (fun p hp => by cases hp) rfl rfl (fun z => nomatch z) (tab_is_figures H) (gv_ok H)
  rw [e_is_whole_word] at h
  exact h
theorem tab_is_whole_word {Γ : Gx} (H : HdOk hx Γ) : TabOk Γ 30 t_is_whole_word := TabOk.cons (tab_is_figures H) (f_is_whole_word H) (by decide)
/-! ### told_by -/
def c_told_by : Den := { N := ["head", "value", "words", "word"], sc := defScope s_told_by, fn := fun _ => true, gvs := gv, lo := [], wf := 0, lam := false, lv := 0, fns := t_is_whole_word }
def m_told_by : List D → M D := runS ["head", "value", "words", "word"] (seqS (asgS (ifE (truT (callV isiV [.one (vE 1), .one (kE (.ty "str"))])) (methV "str" splitV (vE 1) [.one (kE (.str " "))]) (lstE [.one (kE (.str ""))])) (nameG 2)) (seqS (ifS (orsT [cmpT .Lt (callV lenV [.one (vE 2)]) (kE (.int (2))), cmpT .NotEq (ixE (vE 2) (kE (.int (0)))) (vE 0), notT (truT (callV allV [.one (lcE (anyI (slE (vE 2) (some (kE (.int (1)))) none)) (nameG 3) (yesT) (callF m_is_whole_word [.one (vE 3)]) [3])]))]) (retS (tupE [])) (passS)) (retS (callV tupleV [.one (lcE (anyI (slE (vE 2) (some (kE (.int (1)))) none)) (nameG 3) (yesT) (callV intV [.one (vE 3)]) [3])]))))
theorem e_told_by : denFn c_told_by (defBody s_told_by) = m_told_by := by kernel_rfl
def t_told_by : List (Str × Rx.Callee) := ("told_by", ⟨["head", "value"], [], m_told_by⟩) :: t_is_whole_word
theorem f_told_by {Γ : Gx} (H : HdOk hx Γ) : FnC Γ 31 "told_by" ⟨["head", "value"], [], m_told_by⟩ := by
  have h := fnc_of (k := 30) (pats := []) (c := c_told_by) (st := s_told_by) (ps := ["head", "value"]) H (List.mem_of_getElem? (i := 22) rfl) (List.mem_append_left _ (List.mem_of_getElem? (i := 22) rfl)) (by kernel_rfl) (fun p hp => by cases hp) rfl rfl (fun z => nomatch z) (tab_is_whole_word H) (gv_ok H)
  rw [e_told_by] at h
  exact h
theorem tab_told_by {Γ : Gx} (H : HdOk hx Γ) : TabOk Γ 31 t_told_by := TabOk.cons (tab_is_whole_word H) (f_told_by H) (by decide)
/-! ### wrong_in_rows -/
def c_wrong_in_rows : Den := { N := ["value", "at", "head"], sc := defScope s_wrong_in_rows, fn := fun _ => true, gvs := gv, lo := [], wf := 0, lam := false, lv := 0, fns := t_told_by }
def m_wrong_in_rows : List D → M D := runS ["value", "at", "head"] (seqS (ifS (notT (truT (callF m_is_pair [.one (vE 0)]))) (retS (lstE [.one (kE .non)])) (passS)) (retS (slE (lcE (enumI (kE g_HEADS)) (tupG [nameG 1, nameG 2]) (cmpT .Eq (callF m_told_by [.one (vE 2), .one (ixE (vE 0) (vE 1))]) (tupE [])) (vE 1) [1, 2]) none (some (kE (.int (1)))))))
theorem e_wrong_in_rows : denFn c_wrong_in_rows (defBody s_wrong_in_rows) = m_wrong_in_rows := by kernel_rfl
def t_wrong_in_rows : List (Str × Rx.Callee) := ("wrong_in_rows", ⟨["value"], [], m_wrong_in_rows⟩) :: t_told_by
theorem f_wrong_in_rows {Γ : Gx} (H : HdOk hx Γ) : FnC Γ 32 "wrong_in_rows" ⟨["value"], [], m_wrong_in_rows⟩ := by
  have h := fnc_of (k := 31) (pats := []) (c := c_wrong_in_rows) (st := s_wrong_in_rows) (ps := ["value"]) H (List.mem_of_getElem? (i := 23) rfl) (List.mem_append_left _ (List.mem_of_getElem? (i := 23) rfl)) (by kernel_rfl) (fun p hp => by cases hp) rfl rfl (fun z => nomatch z) (tab_told_by H) (gv_ok H)
  rw [e_wrong_in_rows] at h
  exact h
theorem tab_wrong_in_rows {Γ : Gx} (H : HdOk hx Γ) : TabOk Γ 32 t_wrong_in_rows := TabOk.cons (tab_told_by H) (f_wrong_in_rows H) (by decide)
/-! ### read_groups -/
def c_read_groups : Den := { N := ["rows", "index", "one", "two"], sc := defScope s_read_groups, fn := fun _ => true, gvs := gv, lo := [], wf := 0, lam := false, lv := 0, fns := t_wrong_in_rows }
def m_read_groups : List D → M D := runS ["rows", "index", "one", "two"] (seqS (forS (anyI (callF m_wrong_in_rows [.one (vE 0)])) (nameG 1) (badS)) (seqS (par2S (callF m_told_by [.one (kE g_ONE), .one (ixE (vE 0) (kE (.int (0))))]) (callF m_told_by [.one (kE g_TWO), .one (ixE (vE 0) (kE (.int (1))))]) 2 3) (seqS (dropS (callF m_check_two [.one (vE 2), .one (vE 3)])) (retS (tupE [.one (vE 2), .one (vE 3)])))))
theorem e_read_groups : denFn c_read_groups (defBody s_read_groups) = m_read_groups := by kernel_rfl
def t_read_groups : List (Str × Rx.Callee) := ("read_groups", ⟨["rows"], [(0, ["rows"], [0])], m_read_groups⟩) :: t_wrong_in_rows
theorem f_read_groups {Γ : Gx} (H : HdOk hx Γ) : FnC Γ 33 "read_groups" ⟨["rows"], [(0, ["rows"], [0])], m_read_groups⟩ := by
  have h := fnc_of (k := 32) (pats := [(0, ["rows"], [0])]) (c := c_read_groups) (st := s_read_groups) (ps := ["rows"]) H (List.mem_of_getElem? (i := 24) rfl) (List.mem_append_left _ (List.mem_of_getElem? (i := 24) rfl)) (by kernel_rfl) (fun p hp => by
      simp only [List.mem_cons, List.not_mem_nil, or_false] at hp
      subst hp
      · exact fun _ _ _ _ _ _ us ws h1 h2 => match us, ws, h1, h2 with | [], [_], _, _ => rfl) rfl rfl (fun z => nomatch z) (tab_wrong_in_rows H) (gv_ok H)
  rw [e_read_groups] at h
  exact h
theorem tab_read_groups {Γ : Gx} (H : HdOk hx Γ) : TabOk Γ 33 t_read_groups := TabOk.cons (tab_wrong_in_rows H) (f_read_groups H) (by decide)
/-! ### _law_right -/
def c__law_right : Den := { N := ["tub", "lap", "one", "two", "rows", "first", "second", "ends"], sc := defScope s__law_right, fn := fun _ => true, gvs := gv, lo := [], wf := 0, lam := false, lv := 0, fns := t_read_groups }
def m__law_right : List D → M D := runS ["tub", "lap", "one", "two", "rows", "first", "second", "ends"] (seqS (forS (rng1I (kE (.int (6)))) (nameG 1) (seqS (asgS (callF m__law_two [.one (vE 0)]) (tupG [nameG 2, nameG 3])) (seqS (asgS (tupE [.one (callF m__law_line [.one (kE (.str "one")), .one (vE 2)]), .one (callF m__law_line [.one (kE (.str "two")), .one (vE 3)])]) (nameG 4)) (seqS (ifS (notT (truT (callF (m__law_same 8) [.one (lstE [.one (callF m_group_rows [.one (vE 2), .one (vE 3)]), .one (callKF m_group_rows [1, 0] [] [.one (vE 3), .one (vE 2)])]), .one (lstE [.one (vE 4), .one (vE 4)])]))) (retS (kE (.bl false))) (passS)) (seqS (ifS (notT (truT (callF (m__law_same 8) [.one (lstE [.one (callF m_read_groups [.one (vE 4)]), .one (callKF m_read_groups [0] [] [.one (vE 4)]), .one (callF m_read_groups [.one (callF m_group_rows [.one (vE 2), .one (vE 3)])])]), .one (binE .Mult (lstE [.one (tupE [.one (vE 2), .one (vE 3)])]) (kE (.int (3))))]))) (retS (kE (.bl false))) (passS)) (seqS (asgS (callF m__law_two [.one (vE 0)]) (tupG [nameG 5, nameG 6])) (seqS (ifS (cmpT .NotEq (cmpE .Eq (callF m_group_rows [.one (vE 5), .one (vE 6)]) (vE 4)) (cmpE .Eq (tupE [.one (vE 5), .one (vE 6)]) (tupE [.one (vE 2), .one (vE 3)]))) (retS (kE (.bl false))) (passS)) (ifS (andsT [cmpT .Lt (binE .Add (callV lenV [.one (vE 2)]) (callV lenV [.one (vE 6)])) (kE (.int (11))), notT (truT (callF (m__law_same 8) [.one (callF m_read_groups [.one (tupE [.one (ixE (vE 4) (kE (.int (0)))), .one (callF m__law_line [.one (kE (.str "two")), .one (vE 6)])])]), .one (tupE [.one (vE 2), .one (vE 6)])]))]) (retS (kE (.bl false))) (passS))))))))) (seqS (asgS (tupE [.one (tupE [.one (negE (kE (.int (999))))]), .one (tupE [.one (kE (.int (999)))])]) (nameG 7)) (retS (callF (m__law_same 8) [.one (lstE [.one (callF m_group_rows [.one (ixE (vE 7) (kE (.int (0)))), .one (ixE (vE 7) (kE (.int (1))))]), .one (callF m_read_groups [.one (tupE [.one (kE (.str "one -999")), .one (kE (.str "two 999"))])])]), .one (lstE [.one (tupE [.one (kE (.str "one -999")), .one (kE (.str "two 999"))]), .one (vE 7)])]))))
theorem e__law_right : denFn c__law_right (defBody s__law_right) = m__law_right := by kernel_rfl
def t__law_right : List (Str × Rx.Callee) := ("_law_right", ⟨["tub"], [], m__law_right⟩) :: t_read_groups
theorem f__law_right {Γ : Gx} (H : HdOk hx Γ) : FnC Γ 34 "_law_right" ⟨["tub"], [], m__law_right⟩ := by
  have h := fnc_of (k := 33) (pats := []) (c := c__law_right) (st := s__law_right) (ps := ["tub"]) H (List.mem_of_getElem? (i := 25) rfl) (List.mem_append_left _ (List.mem_of_getElem? (i := 25) rfl)) (by kernel_rfl) (fun p hp => by cases hp) rfl rfl (fun z => nomatch z) (tab_read_groups H) (gv_ok H)
  rw [e__law_right] at h
  exact h
theorem tab__law_right {Γ : Gx} (H : HdOk hx Γ) : TabOk Γ 34 t__law_right := TabOk.cons (tab_read_groups H) (f__law_right H) (by decide)
/-! ### _law_tub -/
def c__law_tub : Den := { N := ["script", "lap", "own", "stir", "cell"], sc := defScope s__law_tub, fn := fun _ => true, gvs := gv, lo := [92], wf := 0, lam := false, lv := 0, fns := t__law_right }
def m__law_tub : List D → M D := runS ["script", "lap", "own", "stir", "cell"] (seqS (asgS (ifE (cmpT .Lt (vE 1) (callV lenV [.one (vE 0)])) (callV intV [.one (ixE (vE 0) (vE 1))]) (kE (.int (0)))) (nameG 2)) (seqS (asgS (binE .Add (kE (.int (4793))) (binE .Mult (kE (.int (821))) (vE 1))) (nameG 3)) (seqS (forS (anyI (binE .Add (slE (vE 0) none (some (kE (.int (9))))) (lstE [.one (vE 2)]))) (nameG 4) (asgS (binE .Mod (callV intV [.one (binE .Add (binE .Add (binE .Mult (vE 3) (kE (.int (25589)))) (binE .Mod (callV intV [.one (vE 4)]) (kE (.int (2147482327))))) (kE (.int (139))))]) (kE (.int (2147482873)))) (nameG 3))) (retS (locE [.one (ifE (orsT [cmpT .Lt (vE 2) (kE (.int (0))), cmpT .GtE (vE 2) (binE .Pow (kE (.int (10))) (kE (.int (16))))]) (binE .Mod (callV absV [.one (vE 2)]) (binE .Pow (kE (.int (10))) (kE (.int (60))))) (kE (.int (0)))), .one (vE 3), .one (kE (.int (0)))])))))
theorem e__law_tub : denFn c__law_tub (defBody s__law_tub) = m__law_tub := by kernel_rfl
def t__law_tub : List (Str × Rx.Callee) := ("_law_tub", ⟨["script", "lap"], [], m__law_tub⟩) :: t__law_right
theorem f__law_tub {Γ : Gx} (H : HdOk hx Γ) : FnC Γ 35 "_law_tub" ⟨["script", "lap"], [], m__law_tub⟩ := by
  have h := fnc_of (k := 34) (pats := []) (c := c__law_tub) (st := s__law_tub) (ps := ["script", "lap"]) H (List.mem_of_getElem? (i := 26) rfl) (List.mem_append_left _ (List.mem_of_getElem? (i := 26) rfl)) (by kernel_rfl) (fun p hp => by cases hp) rfl rfl (fun z => nomatch z) (tab__law_right H) (gv_ok H)
  rw [e__law_tub] at h
  exact h
theorem tab__law_tub {Γ : Gx} (H : HdOk hx Γ) : TabOk Γ 35 t__law_tub := TabOk.cons (tab__law_right H) (f__law_tub H) (by decide)
/-! ### law -/
def c_law : Den := { N := ["script", "lap"], sc := defScope s_law, fn := fun _ => true, gvs := gv, lo := [], wf := 0, lam := false, lv := 0, fns := t__law_tub }
def m_law : List D → M D := runS ["script", "lap"] (retS (callV allV [.one (lcE (rng1I (callV maxV [.one (kE (.int (1))), .one (callV minV [.one (callV lenV [.one (vE 0)]), .one (kE (.int (3)))])])) (nameG 1) (yesT) (callF m__law_right [.one (callF m__law_tub [.one (vE 0), .one (vE 1)])]) [1])]))
theorem e_law : denFn c_law (defBody s_law) = m_law := by kernel_rfl
def t_law : List (Str × Rx.Callee) := ("law", ⟨["script"], [], m_law⟩) :: t__law_tub
/-! ### the head, the end -/
abbrev R : PySem.W.OpenRow := PySem.W.OpenLaw.row PySem.Challenge.rw_shiftranges_k82_whole_texts_of_two_group
abbrev hk : PySem.W.Hook := He.hookX 5 hx.fa hx.fn [] hx.tf hx.ex
def ob (s : PySem.W.SharedT) : He.AlX := He.obsX 5 hx.fa hx.fn [] hx.tf hx.ex (HandSHeadRun.getT s)
theorem ob_eq (s : PySem.W.SharedT) : ob s = hk.obs s.abs := He.obsX_eq (HandSHeadRun.getT_eq s)
def names0 : List PySem.Str := ["ShiftError", "InvalidGroup", "InvalidText", "is_whole", "is_between", "is_tuple_of", "is_pair", "wrong_in", "MOST_VALUE", "MOST_GROUP", "MOST_BOTH", "is_value", "wrong_in_rising", "wrong_in_group", "are_too_many"]
def names1 : List PySem.Str := ["check_group", "check_two", "ONE", "TWO", "HEADS", "FIGURES", "MOST_FIGURES", "is_figures", "is_whole_word", "told_by", "wrong_in_rows", "line_of", "group_rows", "read_groups", "_law_tub"]
def names2 : List PySem.Str := ["_law_cup", "_law_of", "_law_same", "_law_value", "_law_group", "_law_two", "_law_line", "_law_right"]
def names : List PySem.Str := names0 ++ names1 ++ names2
theorem run (w : World) : HandSHeadRun.RunEq R (PySem.W.view R.prog [45]) hk ob 3000 names w := by
  intro os
  kernel_rfl
theorem holds_of (hm : ∀ ns : List Int, ns.length ≤ 63 → (∀ z ∈ ns, Builtin.Int.intBits z ≤ 1048576) → ∃ τ, m_law [.scr ns] [] = .ok (.bl true) τ) : PySem.Challenge.rw_shiftranges_k82_whole_texts_of_two_group.Holds := by
  open PySem PySem.W PySem.Calls PyProof.Rows in
  w_on; o_law
  refine HandSHeadRun.head_any (r := R) (q := PySem.W.view R.prog [45]) (H := hk) (ob := ob) (M := 3000) (loose := names) (d := HandSHeadRun.topDef R.prog 45) (kwd := []) ob_eq
    (by kernel_rfl) (fun s => by kernel_rfl) run (by kernel_rfl) (by kernel_rfl) (by kernel_rfl) (by rfl) (by first | assumption | decide +kernel) (by decide +kernel) ⟨rfl, rfl, rfl, rfl, rfl, by decide +kernel⟩ ?hw ?hc
  case hw => w_witness2
  case hc =>
    refine LamX.walk_ofTsE (l := PySem.Challenge.rw_shiftranges_k82_whole_texts_of_two_group) (n := 63) (k := 36) (x := "script") (CX := fun w => L2.CX (PySem.Challenge.rw_shiftranges_k82_whole_texts_of_two_group).prog w) rfl (by decide) (by kernel_rfl) ⟨rfl, by decide, by decide⟩ ?F (fun w H s e s' z => cx_false z)
    intro w mg fa h Y G hmg0
    obtain ⟨K, KX, c⟩ := Y
    have hmg : mg ("law" : PySem.Str) = some (.ref fa) := by
      have e : (HandSHeadRun.topDef R.prog 45).name = ("law" : PySem.Str) := by kernel_rfl
      rw [← e]
      exact hmg0
    refine ⟨K, KX, law_at (l := PySem.Challenge.rw_shiftranges_k82_whole_texts_of_two_group) (h := hx) (st := s_law) (m := m_law) c KX G hmg (fun K z => ?_) (fun x hx => List.mem_append_right _ (List.mem_map.mpr ⟨x, hx, rfl⟩)) (fun base fd HO F => ?_) (List.mem_of_getElem? (i := 27) rfl) (List.mem_append_left _ (List.mem_of_getElem? (i := 27) rfl)) (by kernel_rfl) hm⟩
    · simp only [hx, Bool.and_eq_true, decide_eq_true_eq] at z
      first | exact z | exact z.1 | exact z.1.1 | exact z.1.1.1
    · have q := fnok_of (c := c_law) (k := 35) (st := s_law) (ps := ["script"]) HO F rfl (by kernel_rfl) rfl rfl (fun z => nomatch z) (tab__law_tub HO) (gv_ok HO)
      rw [e_law] at q
      exact q
end Z
end
section
set_option maxRecDepth 100000
set_option maxHeartbeats 0
/-! M82a: the figures of the small numbers, by looking at each, a hundred at a time. -/
namespace Z
open PySem PySem.Spec PyProof.Rows L2 Rx
def sv (v : Int) : Str := Str.ofString (toString v)
def wrow (τ : Sto) (i : Nat) : List (Res D) := (List.range 100).map fun (k : Nat) => m_is_whole_word [.str (sv (((100 * i + k : Nat) : Int) - 999))] τ
def irow (i : Nat) : List (Option Int × Bool × Bool) := (List.range 100).map fun (k : Nat) => (intText? (sv (((100 * i + k : Nat) : Int) - 999)), (sv (((100 * i + k : Nat) : Int) - 999)).cps.toList.contains 32 || !(sv (((100 * i + k : Nat) : Int) - 999)).cps.toList.all (fun c => decide (c < 256)), decide ((sv (((100 * i + k : Nat) : Int) - 999)).length ≤ 4))
def idue (i : Nat) : List (Option Int × Bool × Bool) := (List.range 100).map fun (k : Nat) => (some (((100 * i + k : Nat) : Int) - 999), false, true)
theorem wtab0 (τ : Sto) : wrow τ 0 = List.replicate 100 (.ok (.bl true) τ) := by kernel_rfl
theorem itab0 : irow 0 = idue 0 := by decide +kernel
theorem wtab1 (τ : Sto) : wrow τ 1 = List.replicate 100 (.ok (.bl true) τ) := by kernel_rfl
theorem itab1 : irow 1 = idue 1 := by decide +kernel
theorem wtab2 (τ : Sto) : wrow τ 2 = List.replicate 100 (.ok (.bl true) τ) := by kernel_rfl
theorem itab2 : irow 2 = idue 2 := by decide +kernel
theorem wtab3 (τ : Sto) : wrow τ 3 = List.replicate 100 (.ok (.bl true) τ) := by kernel_rfl
theorem itab3 : irow 3 = idue 3 := by decide +kernel
theorem wtab4 (τ : Sto) : wrow τ 4 = List.replicate 100 (.ok (.bl true) τ) := by kernel_rfl
theorem itab4 : irow 4 = idue 4 := by decide +kernel
theorem wtab5 (τ : Sto) : wrow τ 5 = List.replicate 100 (.ok (.bl true) τ) := by kernel_rfl
theorem itab5 : irow 5 = idue 5 := by decide +kernel
theorem wtab6 (τ : Sto) : wrow τ 6 = List.replicate 100 (.ok (.bl true) τ) := by kernel_rfl
theorem itab6 : irow 6 = idue 6 := by decide +kernel
theorem wtab7 (τ : Sto) : wrow τ 7 = List.replicate 100 (.ok (.bl true) τ) := by kernel_rfl
theorem itab7 : irow 7 = idue 7 := by decide +kernel
theorem wtab8 (τ : Sto) : wrow τ 8 = List.replicate 100 (.ok (.bl true) τ) := by kernel_rfl
theorem itab8 : irow 8 = idue 8 := by decide +kernel
theorem wtab9 (τ : Sto) : wrow τ 9 = List.replicate 100 (.ok (.bl true) τ) := by kernel_rfl
theorem itab9 : irow 9 = idue 9 := by decide +kernel
theorem wtab10 (τ : Sto) : wrow τ 10 = List.replicate 100 (.ok (.bl true) τ) := by kernel_rfl
theorem itab10 : irow 10 = idue 10 := by decide +kernel
theorem wtab11 (τ : Sto) : wrow τ 11 = List.replicate 100 (.ok (.bl true) τ) := by kernel_rfl
theorem itab11 : irow 11 = idue 11 := by decide +kernel
theorem wtab12 (τ : Sto) : wrow τ 12 = List.replicate 100 (.ok (.bl true) τ) := by kernel_rfl
theorem itab12 : irow 12 = idue 12 := by decide +kernel
theorem wtab13 (τ : Sto) : wrow τ 13 = List.replicate 100 (.ok (.bl true) τ) := by kernel_rfl
theorem itab13 : irow 13 = idue 13 := by decide +kernel
theorem wtab14 (τ : Sto) : wrow τ 14 = List.replicate 100 (.ok (.bl true) τ) := by kernel_rfl
theorem itab14 : irow 14 = idue 14 := by decide +kernel
theorem wtab15 (τ : Sto) : wrow τ 15 = List.replicate 100 (.ok (.bl true) τ) := by kernel_rfl
theorem itab15 : irow 15 = idue 15 := by decide +kernel
theorem wtab16 (τ : Sto) : wrow τ 16 = List.replicate 100 (.ok (.bl true) τ) := by kernel_rfl
theorem itab16 : irow 16 = idue 16 := by decide +kernel
theorem wtab17 (τ : Sto) : wrow τ 17 = List.replicate 100 (.ok (.bl true) τ) := by kernel_rfl
theorem itab17 : irow 17 = idue 17 := by decide +kernel
theorem wtab18 (τ : Sto) : wrow τ 18 = List.replicate 100 (.ok (.bl true) τ) := by kernel_rfl
theorem itab18 : irow 18 = idue 18 := by decide +kernel
theorem wtab19 (τ : Sto) : wrow τ 19 = List.replicate 100 (.ok (.bl true) τ) := by kernel_rfl
theorem itab19 : irow 19 = idue 19 := by decide +kernel
theorem wtab (τ : Sto) : ∀ i, i < 20 → wrow τ i = List.replicate 100 (.ok (.bl true) τ)
  | 0, _ => wtab0 τ
  | 1, _ => wtab1 τ
  | 2, _ => wtab2 τ
  | 3, _ => wtab3 τ
  | 4, _ => wtab4 τ
  | 5, _ => wtab5 τ
  | 6, _ => wtab6 τ
  | 7, _ => wtab7 τ
  | 8, _ => wtab8 τ
  | 9, _ => wtab9 τ
  | 10, _ => wtab10 τ
  | 11, _ => wtab11 τ
  | 12, _ => wtab12 τ
  | 13, _ => wtab13 τ
  | 14, _ => wtab14 τ
  | 15, _ => wtab15 τ
  | 16, _ => wtab16 τ
  | 17, _ => wtab17 τ
  | 18, _ => wtab18 τ
  | 19, _ => wtab19 τ
  | i + 20, h => absurd h (by omega)
theorem itab : ∀ i, i < 20 → irow i = idue i
  | 0, _ => itab0
  | 1, _ => itab1
  | 2, _ => itab2
  | 3, _ => itab3
  | 4, _ => itab4
  | 5, _ => itab5
  | 6, _ => itab6
  | 7, _ => itab7
  | 8, _ => itab8
  | 9, _ => itab9
  | 10, _ => itab10
  | 11, _ => itab11
  | 12, _ => itab12
  | 13, _ => itab13
  | 14, _ => itab14
  | 15, _ => itab15
  | 16, _ => itab16
  | 17, _ => itab17
  | 18, _ => itab18
  | 19, _ => itab19
  | i + 20, h => absurd h (by omega)
theorem at_k {v : Int} (h1 : -999 ≤ v) (h2 : v ≤ 999) : ∃ i k : Nat, i < 20 ∧ k < 100 ∧ (((100 * i + k : Nat) : Int) - 999) = v := ⟨(v + 999).toNat / 100, (v + 999).toNat % 100, by omega, by omega, by omega⟩
theorem w_ok {v : Int} (h1 : -999 ≤ v) (h2 : v ≤ 999) (τ : Sto) : m_is_whole_word [.str (sv v)] τ = .ok (.bl true) τ := by
  obtain ⟨i, k, hi, hk, rfl⟩ := at_k h1 h2
  have h := congrArg (fun l => l[k]?) (wtab τ i hi)
  unfold wrow at h
  simp only [List.getElem?_map, List.getElem?_range hk, Option.map_some, List.getElem?_replicate, if_pos hk] at h
  exact Option.some.inj h
theorem i_all2 {v : Int} (h1 : -999 ≤ v) (h2 : v ≤ 999) : intText? (sv v) = some v ∧ 32 ∉ (sv v).cps.toList ∧ (sv v).length ≤ 4 ∧ ∀ c ∈ (sv v).cps.toList, c < 256 := by
  obtain ⟨i, k, hi, hk, rfl⟩ := at_k h1 h2
  have h := congrArg (fun l => l[k]?) (itab i hi)
  unfold irow idue at h
  simp only [List.getElem?_map, List.getElem?_range hk, Option.map_some, Option.some.injEq, Prod.mk.injEq, Bool.or_eq_false_iff, Bool.not_eq_false', List.all_eq_true, decide_eq_true_eq] at h
  refine ⟨h.1, fun z => ?_, h.2.2, h.2.1.2⟩
  have := h.2.1.1
  rw [List.contains_iff_mem.mpr z] at this
  cases this
theorem i_all {v : Int} (h1 : -999 ≤ v) (h2 : v ≤ 999) : intText? (sv v) = some v ∧ 32 ∉ (sv v).cps.toList ∧ (sv v).length ≤ 4 := let ⟨a, b, c, _⟩ := i_all2 h1 h2; ⟨a, b, c⟩
end Z
end
section
set_option maxRecDepth 100000
set_option maxHeartbeats 4000000
namespace Z
open PySem PySem.Spec PyProof.Rows L2 Rx
@[simp] theorem kit_NoneType_tuple : kitB "NoneType" "tuple" = some false := by decide +kernel
@[simp] theorem kit_NoneType_list : kitB "NoneType" "list" = some false := by decide +kernel
@[simp] theorem kit_NoneType_int : kitB "NoneType" "int" = some false := by decide +kernel
@[simp] theorem kit_NoneType_bool : kitB "NoneType" "bool" = some false := by decide +kernel
@[simp] theorem kit_NoneType_str : kitB "NoneType" "str" = some false := by decide +kernel
@[simp] theorem kit_bool_tuple : kitB "bool" "tuple" = some false := by decide +kernel
@[simp] theorem kit_bool_list : kitB "bool" "list" = some false := by decide +kernel
@[simp] theorem kit_bool_int : kitB "bool" "int" = some true := by decide +kernel
@[simp] theorem kit_bool_bool : kitB "bool" "bool" = some true := by decide +kernel
@[simp] theorem kit_bool_str : kitB "bool" "str" = some false := by decide +kernel
@[simp] theorem kit_int_tuple : kitB "int" "tuple" = some false := by decide +kernel
@[simp] theorem kit_int_list : kitB "int" "list" = some false := by decide +kernel
@[simp] theorem kit_int_int : kitB "int" "int" = some true := by decide +kernel
@[simp] theorem kit_int_bool : kitB "int" "bool" = some false := by decide +kernel
@[simp] theorem kit_int_str : kitB "int" "str" = some false := by decide +kernel
@[simp] theorem kit_str_tuple : kitB "str" "tuple" = some false := by decide +kernel
@[simp] theorem kit_str_list : kitB "str" "list" = some false := by decide +kernel
@[simp] theorem kit_str_int : kitB "str" "int" = some false := by decide +kernel
@[simp] theorem kit_str_bool : kitB "str" "bool" = some false := by decide +kernel
@[simp] theorem kit_str_str : kitB "str" "str" = some true := by decide +kernel
@[simp] theorem kit_tuple_tuple : kitB "tuple" "tuple" = some true := by decide +kernel
@[simp] theorem kit_tuple_list : kitB "tuple" "list" = some false := by decide +kernel
@[simp] theorem kit_tuple_int : kitB "tuple" "int" = some false := by decide +kernel
@[simp] theorem kit_tuple_bool : kitB "tuple" "bool" = some false := by decide +kernel
@[simp] theorem kit_tuple_str : kitB "tuple" "str" = some false := by decide +kernel
@[simp] theorem kit_list_tuple : kitB "list" "tuple" = some false := by decide +kernel
@[simp] theorem kit_list_list : kitB "list" "list" = some true := by decide +kernel
@[simp] theorem kit_list_int : kitB "list" "int" = some false := by decide +kernel
@[simp] theorem kit_list_bool : kitB "list" "bool" = some false := by decide +kernel
@[simp] theorem kit_list_str : kitB "list" "str" = some false := by decide +kernel
theorem is_whole_int (v : Int) (τ : Sto) : m_is_whole [.int v] τ = .ok (.bl true) τ := by kernel_rfl
theorem is_between_int (v a b : Int) (τ : Sto) : m_is_between [.int v, .int a, .int b] τ = .ok (.bl (decide (a ≤ v) && decide (v ≤ b))) τ := by
  have h := is_whole_int v τ
  by_cases h1 : a ≤ v <;> simp [runS, startR, seqS, ifS, retS, retN, passS, dropS, asgS, nameG, vE, kE, getS, argsE, callF, callKF, callV, lstE, tupE, mkT, mkL, M.bind, M.pure, M.bad, rd, ofO, andsE, orsE, andsT, orsT, andE, orE, notE, andT, orT, notT, truT, ifE, binE, negE, cmpE, cmpT, chainE, chainT, ixE, slE, partO, intO, itemsO, yesT, anyI, enumI, zipI, rng1I, rng2I, walkO, lcE, lcK, wipeR, noX, forS, forK, methV, tyOk, par2S, tupG, gsK, subG, isiV, lenV, intV, strV, Rx.absV, maxV, minV, allV, sumV, sortedV, tupleV, listV, divmodV, tyD, truV, binV, negV, cmpV, cmpI, addV, subV, powV, modV, divV, mulV, slV, ixV, isV, isNonD, m_is_between, h, h1]
theorem is_value_ok {v : Int} (h1 : -999 ≤ v) (h2 : v ≤ 999) (τ : Sto) : m_is_value [.int v] τ = .ok (.bl true) τ := by
  have h := is_between_int v (-999) 999 τ
  simp [runS, startR, seqS, ifS, retS, retN, passS, dropS, asgS, nameG, vE, kE, getS, argsE, callF, callKF, callV, lstE, tupE, mkT, mkL, M.bind, M.pure, M.bad, rd, ofO, andsE, orsE, andsT, orsT, andE, orE, notE, andT, orT, notT, truT, ifE, binE, negE, cmpE, cmpT, chainE, chainT, ixE, slE, partO, intO, itemsO, yesT, anyI, enumI, zipI, rng1I, rng2I, walkO, lcE, lcK, wipeR, noX, forS, forK, methV, tyOk, par2S, tupG, gsK, subG, isiV, lenV, intV, strV, Rx.absV, maxV, minV, allV, sumV, sortedV, tupleV, listV, divmodV, tyD, truV, binV, negV, cmpV, cmpI, addV, subV, powV, modV, divV, mulV, slV, ixV, isV, isNonD, m_is_value, g_MOST_VALUE, h, h1, h2]
/-- a list made of what is walked, each by itself -/
theorem lc_map {i : Nat} {el : Rho → M D} {ρ : Rho} {τ : Sto} (f : D → D) : ∀ (ds acc : List D), acc.length + ds.length ≤ sizeLine → (∀ d ∈ ds, el (ρ.set i (some d)) τ = .ok (f d) τ) → lcK (nameG i) yesT el ρ ds acc τ = .ok (.lst (acc ++ ds.map f)) τ
  | [], acc, _, _ => by simp [runS, startR, seqS, ifS, retS, retN, passS, dropS, asgS, nameG, vE, kE, getS, argsE, callF, callKF, callV, lstE, tupE, mkT, mkL, M.bind, M.pure, M.bad, rd, ofO, andsE, orsE, andsT, orsT, andE, orE, notE, andT, orT, notT, truT, ifE, binE, negE, cmpE, cmpT, chainE, chainT, ixE, slE, partO, intO, itemsO, yesT, anyI, enumI, zipI, rng1I, rng2I, walkO, lcE, lcK, wipeR, noX, forS, forK, methV, tyOk, par2S, tupG, gsK, subG, isiV, lenV, intV, strV, Rx.absV, maxV, minV, allV, sumV, sortedV, tupleV, listV, divmodV, tyD, truV, binV, negV, cmpV, cmpI, addV, subV, powV, modV, divV, mulV, slV, ixV, isV, isNonD]
  | d :: ds, acc, hl, h => by
    have h0 := h d List.mem_cons_self
    have ih := lc_map (i := i) (el := el) (ρ := ρ) (τ := τ) f ds (acc ++ [f d]) (by simp [runS, startR, seqS, ifS, retS, retN, passS, dropS, asgS, nameG, vE, kE, getS, argsE, callF, callKF, callV, lstE, tupE, mkT, mkL, M.bind, M.pure, M.bad, rd, ofO, andsE, orsE, andsT, orsT, andE, orE, notE, andT, orT, notT, truT, ifE, binE, negE, cmpE, cmpT, chainE, chainT, ixE, slE, partO, intO, itemsO, yesT, anyI, enumI, zipI, rng1I, rng2I, walkO, lcE, lcK, wipeR, noX, forS, forK, methV, tyOk, par2S, tupG, gsK, subG, isiV, lenV, intV, strV, Rx.absV, maxV, minV, allV, sumV, sortedV, tupleV, listV, divmodV, tyD, truV, binV, negV, cmpV, cmpI, addV, subV, powV, modV, divV, mulV, slV, ixV, isV, isNonD] at hl ⊢; omega) fun e he => h e (List.mem_cons_of_mem _ he)
    have hz : acc.length < sizeLine := by simp [runS, startR, seqS, ifS, retS, retN, passS, dropS, asgS, nameG, vE, kE, getS, argsE, callF, callKF, callV, lstE, tupE, mkT, mkL, M.bind, M.pure, M.bad, rd, ofO, andsE, orsE, andsT, orsT, andE, orE, notE, andT, orT, notT, truT, ifE, binE, negE, cmpE, cmpT, chainE, chainT, ixE, slE, partO, intO, itemsO, yesT, anyI, enumI, zipI, rng1I, rng2I, walkO, lcE, lcK, wipeR, noX, forS, forK, methV, tyOk, par2S, tupG, gsK, subG, isiV, lenV, intV, strV, Rx.absV, maxV, minV, allV, sumV, sortedV, tupleV, listV, divmodV, tyD, truV, binV, negV, cmpV, cmpI, addV, subV, powV, modV, divV, mulV, slV, ixV, isV, isNonD] at hl; omega
    simp only [lcK, nameG, yesT, M.bind, M.pure, noX, h0, hz, if_true, cond]
    rw [ih]
    simp [runS, startR, seqS, ifS, retS, retN, passS, dropS, asgS, nameG, vE, kE, getS, argsE, callF, callKF, callV, lstE, tupE, mkT, mkL, M.bind, M.pure, M.bad, rd, ofO, andsE, orsE, andsT, orsT, andE, orE, notE, andT, orT, notT, truT, ifE, binE, negE, cmpE, cmpT, chainE, chainT, ixE, slE, partO, intO, itemsO, yesT, anyI, enumI, zipI, rng1I, rng2I, walkO, lcE, lcK, wipeR, noX, forS, forK, methV, tyOk, par2S, tupG, gsK, subG, isiV, lenV, intV, strV, Rx.absV, maxV, minV, allV, sumV, sortedV, tupleV, listV, divmodV, tyD, truV, binV, negV, cmpV, cmpI, addV, subV, powV, modV, divV, mulV, slV, ixV, isV, isNonD]
def lineOf (w : Str) (xs : List Int) : Str := Txt.join (Str.ofString " ") (w :: xs.map sv)
@[simp] abbrev tupI (xs : List Int) : D := .tup (xs.map .int)
/-- a group: rising values of the small ones -/
structure Grp (xs : List Int) : Prop where
  lo : ∀ v ∈ xs, -999 ≤ v ∧ v ≤ 999
  n1 : 1 ≤ xs.length
  n9 : xs.length ≤ 9
  up : xs.Pairwise (· ≤ ·)
theorem strs_ints (xs : List Int) : strsO (xs.map fun v => D.str (sv v)) = some (xs.map sv) := by
  have := strsO_map (xs.map sv)
  rw [List.map_map] at this
  exact this
theorem len_sum {xs : List Int} (h : ∀ v ∈ xs, -999 ≤ v ∧ v ≤ 999) : ((xs.map sv).map (·.length)).sum ≤ 4 * xs.length := by
  induction xs with
  | nil => simp [runS, startR, seqS, ifS, retS, retN, passS, dropS, asgS, nameG, vE, kE, getS, argsE, callF, callKF, callV, lstE, tupE, mkT, mkL, M.bind, M.pure, M.bad, rd, ofO, andsE, orsE, andsT, orsT, andE, orE, notE, andT, orT, notT, truT, ifE, binE, negE, cmpE, cmpT, chainE, chainT, ixE, slE, partO, intO, itemsO, yesT, anyI, enumI, zipI, rng1I, rng2I, walkO, lcE, lcK, wipeR, noX, forS, forK, methV, tyOk, par2S, tupG, gsK, subG, isiV, lenV, intV, strV, Rx.absV, maxV, minV, allV, sumV, sortedV, tupleV, listV, divmodV, tyD, truV, binV, negV, cmpV, cmpI, addV, subV, powV, modV, divV, mulV, slV, ixV, isV, isNonD]
  | cons v r ih =>
    have h1 := h v List.mem_cons_self
    have h2 := (i_all h1.1 h1.2).2.2
    have h3 := ih fun z hz => h z (List.mem_cons_of_mem _ hz)
    simp only [List.map_cons, List.sum_cons, List.length_cons]
    omega
theorem bits_small {v : Int} (h : -999 ≤ v ∧ v ≤ 999) : v.natAbs.log2 < 1920 := by
  have hlt : v.natAbs < 2 ^ 10 := by omega
  by_cases h0 : v.natAbs = 0
  · rw [h0]; decide
  · have := (Nat.log2_lt h0).mpr hlt
    omega
theorem line_of_ok {w : Str} (hw : w.length ≤ 3) {xs : List Int} (h : Grp xs) (τ : Sto) : m_line_of [.str w, tupI xs] τ = .ok (.str (lineOf w xs)) τ := by
  have h9 := h.n9
  have hs := len_sum h.lo
  have h1 : ∀ d ∈ xs.map D.int, (callV strV [.one (vE 2)]) ([some (.str w), some (tupI xs), none].set 2 (some d)) τ = .ok ((fun d => match d with | .int v => .str (sv v) | _ => .non) d) τ := by
    intro d hd
    obtain ⟨v, hv, rfl⟩ := List.mem_map.mp hd
    have hb := bits_small (h.lo v hv)
    simp [runS, startR, seqS, ifS, retS, retN, passS, dropS, asgS, nameG, vE, kE, getS, argsE, callF, callKF, callV, lstE, tupE, mkT, mkL, M.bind, M.pure, M.bad, rd, ofO, andsE, orsE, andsT, orsT, andE, orE, notE, andT, orT, notT, truT, ifE, binE, negE, cmpE, cmpT, chainE, chainT, ixE, slE, partO, intO, itemsO, yesT, anyI, enumI, zipI, rng1I, rng2I, walkO, lcE, lcK, wipeR, noX, forS, forK, methV, tyOk, par2S, tupG, gsK, subG, isiV, lenV, intV, strV, Rx.absV, maxV, minV, allV, sumV, sortedV, tupleV, listV, divmodV, tyD, truV, binV, negV, cmpV, cmpI, addV, subV, powV, modV, divV, mulV, slV, ixV, isV, isNonD, hb, sv]
  have h2 := lc_map (ρ := [some (.str w), some (tupI xs), none]) _ (xs.map D.int) [] (by simp [runS, startR, seqS, ifS, retS, retN, passS, dropS, asgS, nameG, vE, kE, getS, argsE, callF, callKF, callV, lstE, tupE, mkT, mkL, M.bind, M.pure, M.bad, rd, ofO, andsE, orsE, andsT, orsT, andE, orE, notE, andT, orT, notT, truT, ifE, binE, negE, cmpE, cmpT, chainE, chainT, ixE, slE, partO, intO, itemsO, yesT, anyI, enumI, zipI, rng1I, rng2I, walkO, lcE, lcK, wipeR, noX, forS, forK, methV, tyOk, par2S, tupG, gsK, subG, isiV, lenV, intV, strV, Rx.absV, maxV, minV, allV, sumV, sortedV, tupleV, listV, divmodV, tyD, truV, binV, negV, cmpV, cmpI, addV, subV, powV, modV, divV, mulV, slV, ixV, isV, isNonD]; rw [sizeLine_eq]; omega) h1
  have e2 : (xs.map D.int).map (fun d => match d with | .int v => D.str (sv v) | _ => .non) = xs.map fun v => D.str (sv v) := by simp [runS, startR, seqS, ifS, retS, retN, passS, dropS, asgS, nameG, vE, kE, getS, argsE, callF, callKF, callV, lstE, tupE, mkT, mkL, M.bind, M.pure, M.bad, rd, ofO, andsE, orsE, andsT, orsT, andE, orE, notE, andT, orT, notT, truT, ifE, binE, negE, cmpE, cmpT, chainE, chainT, ixE, slE, partO, intO, itemsO, yesT, anyI, enumI, zipI, rng1I, rng2I, walkO, lcE, lcK, wipeR, noX, forS, forK, methV, tyOk, par2S, tupG, gsK, subG, isiV, lenV, intV, strV, Rx.absV, maxV, minV, allV, sumV, sortedV, tupleV, listV, divmodV, tyD, truV, binV, negV, cmpV, cmpI, addV, subV, powV, modV, divV, mulV, slV, ixV, isV, isNonD, List.map_map]
  rw [e2, List.nil_append] at h2
  have hz : xs.length + 1 ≤ sizeLine := by rw [sizeLine_eq]; omega
  have hq := strs_ints xs
  have hsum : w.length + ((xs.map sv).map (·.length)).sum + (xs.length + 1) * (Str.ofString " ").length ≤ 16777216 := by
    have : (Str.ofString " ").length = 1 := by decide +kernel
    rw [this]; omega
  have hsum2 : w.length + ((xs.map fun v => (sv v).length)).sum + (xs.length + 1) * (Str.ofString " ").length ≤ 16777216 := by
    have e : (xs.map fun v => (sv v).length) = (xs.map sv).map (·.length) := by simp [runS, startR, seqS, ifS, retS, retN, passS, dropS, asgS, nameG, vE, kE, getS, argsE, callF, callKF, callV, lstE, tupE, mkT, mkL, M.bind, M.pure, M.bad, rd, ofO, andsE, orsE, andsT, orsT, andE, orE, notE, andT, orT, notT, truT, ifE, binE, negE, cmpE, cmpT, chainE, chainT, ixE, slE, partO, intO, itemsO, yesT, anyI, enumI, zipI, rng1I, rng2I, walkO, lcE, lcK, wipeR, noX, forS, forK, methV, tyOk, par2S, tupG, gsK, subG, isiV, lenV, intV, strV, Rx.absV, maxV, minV, allV, sumV, sortedV, tupleV, listV, divmodV, tyD, truV, binV, negV, cmpV, cmpI, addV, subV, powV, modV, divV, mulV, slV, ixV, isV, isNonD, List.map_map]
    rw [e]; exact hsum
  simp [runS, startR, seqS, ifS, retS, retN, passS, dropS, asgS, nameG, vE, kE, getS, argsE, callF, callKF, callV, lstE, tupE, mkT, mkL, M.bind, M.pure, M.bad, rd, ofO, andsE, orsE, andsT, orsT, andE, orE, notE, andT, orT, notT, truT, ifE, binE, negE, cmpE, cmpT, chainE, chainT, ixE, slE, partO, intO, itemsO, yesT, anyI, enumI, zipI, rng1I, rng2I, walkO, lcE, lcK, wipeR, noX, forS, forK, methV, tyOk, par2S, tupG, gsK, subG, isiV, lenV, intV, strV, Rx.absV, maxV, minV, allV, sumV, sortedV, tupleV, listV, divmodV, tyD, truV, binV, negV, cmpV, cmpI, addV, subV, powV, modV, divV, mulV, slV, ixV, isV, isNonD, m_line_of, h2, joinV, hz, hq, strsO, List.map_map]
  rw [if_pos (by simpa [runS, startR, seqS, ifS, retS, retN, passS, dropS, asgS, nameG, vE, kE, getS, argsE, callF, callKF, callV, lstE, tupE, mkT, mkL, M.bind, M.pure, M.bad, rd, ofO, andsE, orsE, andsT, orsT, andE, orE, notE, andT, orT, notT, truT, ifE, binE, negE, cmpE, cmpT, chainE, chainT, ixE, slE, partO, intO, itemsO, yesT, anyI, enumI, zipI, rng1I, rng2I, walkO, lcE, lcK, wipeR, noX, forS, forK, methV, tyOk, par2S, tupG, gsK, subG, isiV, lenV, intV, strV, Rx.absV, maxV, minV, allV, sumV, sortedV, tupleV, listV, divmodV, tyD, truV, binV, negV, cmpV, cmpI, addV, subV, powV, modV, divV, mulV, slV, ixV, isV, isNonD, Function.comp_def] using hsum2)]
  rfl
/-! ### a group is right -/
theorem lam_mir (a b : D) (τ : Sto) : applyD (sem 34) c_wrong_in l_wrong_in_rising [a, b] τ = andsE [callF m_is_value [.one (vE 1)], orsE [cmpE .Eq (vE 0) (tupE []), cmpE .LtE (ixE (vE 0) (negE (kE (.int 1)))) (vE 1)]] [some a, some b] τ := by kernel_rfl
theorem lam_ok {pre : List Int} {v : Int} (hv : -999 ≤ v ∧ v ≤ 999) (hp : ∀ z ∈ pre, z ≤ v) (τ : Sto) : applyD (sem 34) c_wrong_in l_wrong_in_rising [tupI pre, .int v] τ = .ok (.bl true) τ := by
  rw [lam_mir]
  have h := is_value_ok hv.1 hv.2 τ
  cases pre with
  | nil =>
    have e : eqO (.tup []) (.tup []) = some true := by kernel_rfl
    simp [runS, startR, seqS, ifS, retS, retN, passS, dropS, asgS, nameG, vE, kE, getS, argsE, callF, callKF, callV, lstE, tupE, mkT, mkL, M.bind, M.pure, M.bad, rd, ofO, andsE, orsE, andsT, orsT, andE, orE, notE, andT, orT, notT, truT, ifE, binE, negE, cmpE, cmpT, chainE, chainT, ixE, slE, partO, intO, itemsO, yesT, anyI, enumI, zipI, rng1I, rng2I, walkO, lcE, lcK, wipeR, noX, forS, forK, methV, tyOk, par2S, tupG, gsK, subG, isiV, lenV, intV, strV, Rx.absV, maxV, minV, allV, sumV, sortedV, tupleV, listV, divmodV, tyD, truV, binV, negV, cmpV, cmpI, addV, subV, powV, modV, divV, mulV, slV, ixV, isV, isNonD, h, orsE, orE, cmpV, e]
  | cons x r =>
    have e : eqO (.tup (.int x :: r.map .int)) (.tup []) = some false := eqO_no (n := 3) (by decide) (by have := okDs_ints 2 (x :: r); simpa [runS, startR, seqS, ifS, retS, retN, passS, dropS, asgS, nameG, vE, kE, getS, argsE, callF, callKF, callV, lstE, tupE, mkT, mkL, M.bind, M.pure, M.bad, rd, ofO, andsE, orsE, andsT, orsT, andE, orE, notE, andT, orT, notT, truT, ifE, binE, negE, cmpE, cmpT, chainE, chainT, ixE, slE, partO, intO, itemsO, yesT, anyI, enumI, zipI, rng1I, rng2I, walkO, lcE, lcK, wipeR, noX, forS, forK, methV, tyOk, par2S, tupG, gsK, subG, isiV, lenV, intV, strV, Rx.absV, maxV, minV, allV, sumV, sortedV, tupleV, listV, divmodV, tyD, truV, binV, negV, cmpV, cmpI, addV, subV, powV, modV, divV, mulV, slV, ixV, isV, isNonD, okD] using this) (by simp [runS, startR, seqS, ifS, retS, retN, passS, dropS, asgS, nameG, vE, kE, getS, argsE, callF, callKF, callV, lstE, tupE, mkT, mkL, M.bind, M.pure, M.bad, rd, ofO, andsE, orsE, andsT, orsT, andE, orE, notE, andT, orT, notT, truT, ifE, binE, negE, cmpE, cmpT, chainE, chainT, ixE, slE, partO, intO, itemsO, yesT, anyI, enumI, zipI, rng1I, rng2I, walkO, lcE, lcK, wipeR, noX, forS, forK, methV, tyOk, par2S, tupG, gsK, subG, isiV, lenV, intV, strV, Rx.absV, maxV, minV, allV, sumV, sortedV, tupleV, listV, divmodV, tyD, truV, binV, negV, cmpV, cmpI, addV, subV, powV, modV, divV, mulV, slV, ixV, isV, isNonD, okD, okDs]) (by simp [runS, startR, seqS, ifS, retS, retN, passS, dropS, asgS, nameG, vE, kE, getS, argsE, callF, callKF, callV, lstE, tupE, mkT, mkL, M.bind, M.pure, M.bad, rd, ofO, andsE, orsE, andsT, orsT, andE, orE, notE, andT, orT, notT, truT, ifE, binE, negE, cmpE, cmpT, chainE, chainT, ixE, slE, partO, intO, itemsO, yesT, anyI, enumI, zipI, rng1I, rng2I, walkO, lcE, lcK, wipeR, noX, forS, forK, methV, tyOk, par2S, tupG, gsK, subG, isiV, lenV, intV, strV, Rx.absV, maxV, minV, allV, sumV, sortedV, tupleV, listV, divmodV, tyD, truV, binV, negV, cmpV, cmpI, addV, subV, powV, modV, divV, mulV, slV, ixV, isV, isNonD])
    obtain ⟨z, hz⟩ : ∃ z, (x :: r)[r.length]? = some z := ⟨_, List.getElem?_eq_getElem (by simp [runS, startR, seqS, ifS, retS, retN, passS, dropS, asgS, nameG, vE, kE, getS, argsE, callF, callKF, callV, lstE, tupE, mkT, mkL, M.bind, M.pure, M.bad, rd, ofO, andsE, orsE, andsT, orsT, andE, orE, notE, andT, orT, notT, truT, ifE, binE, negE, cmpE, cmpT, chainE, chainT, ixE, slE, partO, intO, itemsO, yesT, anyI, enumI, zipI, rng1I, rng2I, walkO, lcE, lcK, wipeR, noX, forS, forK, methV, tyOk, par2S, tupG, gsK, subG, isiV, lenV, intV, strV, Rx.absV, maxV, minV, allV, sumV, sortedV, tupleV, listV, divmodV, tyD, truV, binV, negV, cmpV, cmpI, addV, subV, powV, modV, divV, mulV, slV, ixV, isV, isNonD])⟩
    have hzm : z ≤ v := hp z (List.mem_of_getElem? hz)
    have e2 : atI (.int x :: r.map D.int) (-1) = some (.int z) := by
      unfold atI ixN
      have h1 : ¬ (0 ≤ (-1 : Int)) := by decide
      rw [if_neg h1]
      have h2 : -(((.int x :: r.map D.int).length : Nat) : Int) ≤ -1 := by simp [runS, startR, seqS, ifS, retS, retN, passS, dropS, asgS, nameG, vE, kE, getS, argsE, callF, callKF, callV, lstE, tupE, mkT, mkL, M.bind, M.pure, M.bad, rd, ofO, andsE, orsE, andsT, orsT, andE, orE, notE, andT, orT, notT, truT, ifE, binE, negE, cmpE, cmpT, chainE, chainT, ixE, slE, partO, intO, itemsO, yesT, anyI, enumI, zipI, rng1I, rng2I, walkO, lcE, lcK, wipeR, noX, forS, forK, methV, tyOk, par2S, tupG, gsK, subG, isiV, lenV, intV, strV, Rx.absV, maxV, minV, allV, sumV, sortedV, tupleV, listV, divmodV, tyD, truV, binV, negV, cmpV, cmpI, addV, subV, powV, modV, divV, mulV, slV, ixV, isV, isNonD]; omega
      rw [if_pos h2]
      have h3 : ((-1 : Int) + (((.int x :: r.map D.int).length : Nat) : Int)).toNat = r.length := by simp [runS, startR, seqS, ifS, retS, retN, passS, dropS, asgS, nameG, vE, kE, getS, argsE, callF, callKF, callV, lstE, tupE, mkT, mkL, M.bind, M.pure, M.bad, rd, ofO, andsE, orsE, andsT, orsT, andE, orE, notE, andT, orT, notT, truT, ifE, binE, negE, cmpE, cmpT, chainE, chainT, ixE, slE, partO, intO, itemsO, yesT, anyI, enumI, zipI, rng1I, rng2I, walkO, lcE, lcK, wipeR, noX, forS, forK, methV, tyOk, par2S, tupG, gsK, subG, isiV, lenV, intV, strV, Rx.absV, maxV, minV, allV, sumV, sortedV, tupleV, listV, divmodV, tyD, truV, binV, negV, cmpV, cmpI, addV, subV, powV, modV, divV, mulV, slV, ixV, isV, isNonD]; omega
      show (.int x :: r.map D.int)[_]? = _
      rw [h3]
      have : (.int x :: r.map D.int) = (x :: r).map D.int := rfl
      rw [this, List.getElem?_map, hz]
      rfl
    simp [runS, startR, seqS, ifS, retS, retN, passS, dropS, asgS, nameG, vE, kE, getS, argsE, callF, callKF, callV, lstE, tupE, mkT, mkL, M.bind, M.pure, M.bad, rd, ofO, andsE, orsE, andsT, orsT, andE, orE, notE, andT, orT, notT, truT, ifE, binE, negE, cmpE, cmpT, chainE, chainT, ixE, slE, partO, intO, itemsO, yesT, anyI, enumI, zipI, rng1I, rng2I, walkO, lcE, lcK, wipeR, noX, forS, forK, methV, tyOk, par2S, tupG, gsK, subG, isiV, lenV, intV, strV, Rx.absV, maxV, minV, allV, sumV, sortedV, tupleV, listV, divmodV, tyD, truV, binV, negV, cmpV, cmpI, addV, subV, powV, modV, divV, mulV, slV, ixV, isV, isNonD, h, orsE, orE, cmpV, e, e2, hzm]
theorem cut_pre {xs : List D} {k : Nat} (h : k ≤ xs.length) : Rx.cutD xs none (some (k : Int)) = xs.take k := by
  unfold Rx.cutD
  rw [HT.sIx_none, HT.sIx_nat]
  simp [runS, startR, seqS, ifS, retS, retN, passS, dropS, asgS, nameG, vE, kE, getS, argsE, callF, callKF, callV, lstE, tupE, mkT, mkL, M.bind, M.pure, M.bad, rd, ofO, andsE, orsE, andsT, orsT, andE, orE, notE, andT, orT, notT, truT, ifE, binE, negE, cmpE, cmpT, chainE, chainT, ixE, slE, partO, intO, itemsO, yesT, anyI, enumI, zipI, rng1I, rng2I, walkO, lcE, lcK, wipeR, noX, forS, forK, methV, tyOk, par2S, tupG, gsK, subG, isiV, lenV, intV, strV, Rx.absV, maxV, minV, allV, sumV, sortedV, tupleV, listV, divmodV, tyD, truV, binV, negV, cmpV, cmpI, addV, subV, powV, modV, divV, mulV, slV, ixV, isV, isNonD, Nat.min_eq_left h]
theorem loop_ok {xs : List Int} (hlo : ∀ v ∈ xs, -999 ≤ v ∧ v ≤ 999) (hup : xs.Pairwise (· ≤ ·)) (least : Int) (τ : Sto) : ∀ (ys pre : List Int) (a b : Option D), xs = pre ++ ys →
    forK (tupG [nameG 4, nameG 5]) (ifS (orsT [cmpT .Eq (vE 4) (vE 2), notT (truT (cloF (applyD (sem 34) c_wrong_in) 3 [.one (slE (vE 0) none (some (vE 4))), .one (vE 5)]))]) (retS (lstE [.one (vE 4)])) passS) (fun ρ => retS (lstE []) (fun _ => M.pure .non) (fun _ => M.bad) (fun _ => M.bad) ρ)
      (Rx.numbered pre.length (ys.map .int)) [some (tupI xs), some (.int least), some .non, some l_wrong_in_rising, a, b] τ = .ok (.lst []) τ
  | [], pre, a, b, _ => by simp [runS, startR, seqS, ifS, retS, retN, passS, dropS, asgS, nameG, vE, kE, getS, argsE, callF, callKF, callV, lstE, tupE, mkT, mkL, M.bind, M.pure, M.bad, rd, ofO, andsE, orsE, andsT, orsT, andE, orE, notE, andT, orT, notT, truT, ifE, binE, negE, cmpE, cmpT, chainE, chainT, ixE, slE, partO, intO, itemsO, yesT, anyI, enumI, zipI, rng1I, rng2I, walkO, lcE, lcK, wipeR, noX, forS, forK, methV, tyOk, par2S, tupG, gsK, subG, isiV, lenV, intV, strV, Rx.absV, maxV, minV, allV, sumV, sortedV, tupleV, listV, divmodV, tyD, truV, binV, negV, cmpV, cmpI, addV, subV, powV, modV, divV, mulV, slV, ixV, isV, isNonD, Rx.numbered]
  | y :: ys, pre, a, b, e => by
    have ih := loop_ok hlo hup least τ ys (pre ++ [y]) (some (.int (pre.length : Nat))) (some (.int y)) (by rw [e]; simp [runS, startR, seqS, ifS, retS, retN, passS, dropS, asgS, nameG, vE, kE, getS, argsE, callF, callKF, callV, lstE, tupE, mkT, mkL, M.bind, M.pure, M.bad, rd, ofO, andsE, orsE, andsT, orsT, andE, orE, notE, andT, orT, notT, truT, ifE, binE, negE, cmpE, cmpT, chainE, chainT, ixE, slE, partO, intO, itemsO, yesT, anyI, enumI, zipI, rng1I, rng2I, walkO, lcE, lcK, wipeR, noX, forS, forK, methV, tyOk, par2S, tupG, gsK, subG, isiV, lenV, intV, strV, Rx.absV, maxV, minV, allV, sumV, sortedV, tupleV, listV, divmodV, tyD, truV, binV, negV, cmpV, cmpI, addV, subV, powV, modV, divV, mulV, slV, ixV, isV, isNonD])
    have hy := hlo y (by rw [e]; simp [runS, startR, seqS, ifS, retS, retN, passS, dropS, asgS, nameG, vE, kE, getS, argsE, callF, callKF, callV, lstE, tupE, mkT, mkL, M.bind, M.pure, M.bad, rd, ofO, andsE, orsE, andsT, orsT, andE, orE, notE, andT, orT, notT, truT, ifE, binE, negE, cmpE, cmpT, chainE, chainT, ixE, slE, partO, intO, itemsO, yesT, anyI, enumI, zipI, rng1I, rng2I, walkO, lcE, lcK, wipeR, noX, forS, forK, methV, tyOk, par2S, tupG, gsK, subG, isiV, lenV, intV, strV, Rx.absV, maxV, minV, allV, sumV, sortedV, tupleV, listV, divmodV, tyD, truV, binV, negV, cmpV, cmpI, addV, subV, powV, modV, divV, mulV, slV, ixV, isV, isNonD])
    have hp : ∀ z ∈ pre, z ≤ y := by
      rw [e] at hup
      have := (List.pairwise_append.mp hup).2.2
      exact fun z hz => this z hz y List.mem_cons_self
    have hl := lam_ok hy hp τ
    have hc : Rx.cutD (xs.map D.int) none (some ((pre.length : Nat) : Int)) = pre.map D.int := by
      rw [cut_pre (by rw [e]; simp [runS, startR, seqS, ifS, retS, retN, passS, dropS, asgS, nameG, vE, kE, getS, argsE, callF, callKF, callV, lstE, tupE, mkT, mkL, M.bind, M.pure, M.bad, rd, ofO, andsE, orsE, andsT, orsT, andE, orE, notE, andT, orT, notT, truT, ifE, binE, negE, cmpE, cmpT, chainE, chainT, ixE, slE, partO, intO, itemsO, yesT, anyI, enumI, zipI, rng1I, rng2I, walkO, lcE, lcK, wipeR, noX, forS, forK, methV, tyOk, par2S, tupG, gsK, subG, isiV, lenV, intV, strV, Rx.absV, maxV, minV, allV, sumV, sortedV, tupleV, listV, divmodV, tyD, truV, binV, negV, cmpV, cmpI, addV, subV, powV, modV, divV, mulV, slV, ixV, isV, isNonD]), e]
      simp [runS, startR, seqS, ifS, retS, retN, passS, dropS, asgS, nameG, vE, kE, getS, argsE, callF, callKF, callV, lstE, tupE, mkT, mkL, M.bind, M.pure, M.bad, rd, ofO, andsE, orsE, andsT, orsT, andE, orE, notE, andT, orT, notT, truT, ifE, binE, negE, cmpE, cmpT, chainE, chainT, ixE, slE, partO, intO, itemsO, yesT, anyI, enumI, zipI, rng1I, rng2I, walkO, lcE, lcK, wipeR, noX, forS, forK, methV, tyOk, par2S, tupG, gsK, subG, isiV, lenV, intV, strV, Rx.absV, maxV, minV, allV, sumV, sortedV, tupleV, listV, divmodV, tyD, truV, binV, negV, cmpV, cmpI, addV, subV, powV, modV, divV, mulV, slV, ixV, isV, isNonD, List.map_append, List.take_append]
    have e1 : eqO (.int ((pre.length : Nat) : Int)) .non = some false := eqO_no (n := 0) (by decide) rfl rfl (by simp [runS, startR, seqS, ifS, retS, retN, passS, dropS, asgS, nameG, vE, kE, getS, argsE, callF, callKF, callV, lstE, tupE, mkT, mkL, M.bind, M.pure, M.bad, rd, ofO, andsE, orsE, andsT, orsT, andE, orE, notE, andT, orT, notT, truT, ifE, binE, negE, cmpE, cmpT, chainE, chainT, ixE, slE, partO, intO, itemsO, yesT, anyI, enumI, zipI, rng1I, rng2I, walkO, lcE, lcK, wipeR, noX, forS, forK, methV, tyOk, par2S, tupG, gsK, subG, isiV, lenV, intV, strV, Rx.absV, maxV, minV, allV, sumV, sortedV, tupleV, listV, divmodV, tyD, truV, binV, negV, cmpV, cmpI, addV, subV, powV, modV, divV, mulV, slV, ixV, isV, isNonD])
    have el : cloO l_wrong_in_rising = some () := rfl
    simp only [List.map_cons, Rx.numbered, forK]
    simp only [List.length_append, List.length_cons, List.length_nil, Nat.zero_add] at ih
    simpa [runS, startR, seqS, ifS, retS, retN, passS, dropS, asgS, nameG, vE, kE, getS, argsE, callF, callKF, callV, lstE, tupE, mkT, mkL, M.bind, M.pure, M.bad, rd, ofO, andsE, orsE, andsT, orsT, andE, orE, notE, andT, orT, notT, truT, ifE, binE, negE, cmpE, cmpT, chainE, chainT, ixE, slE, partO, intO, itemsO, yesT, anyI, enumI, zipI, rng1I, rng2I, walkO, lcE, lcK, wipeR, noX, forS, forK, methV, tyOk, par2S, tupG, gsK, subG, isiV, lenV, intV, strV, Rx.absV, maxV, minV, allV, sumV, sortedV, tupleV, listV, divmodV, tyD, truV, binV, negV, cmpV, cmpI, addV, subV, powV, modV, divV, mulV, slV, ixV, isV, isNonD, cloF, e1, hc, hl, el] using ih
theorem wrong_in_ok {xs : List Int} (h : Grp xs) (τ : Sto) : m_wrong_in [tupI xs, .int 1, .non, l_wrong_in_rising] τ = .ok (.lst []) τ := by
  have h1 := loop_ok h.lo h.up 1 τ xs [] none none rfl
  have n1 : ¬ ((xs.length : Int) < 1) := by have := h.n1; omega
  simp only [List.length_nil] at h1
  simp [runS, startR, seqS, ifS, retS, retN, passS, dropS, asgS, nameG, vE, kE, getS, argsE, callF, callKF, callV, lstE, tupE, mkT, mkL, M.bind, M.pure, M.bad, rd, ofO, andsE, orsE, andsT, orsT, andE, orE, notE, andT, orT, notT, truT, ifE, binE, negE, cmpE, cmpT, chainE, chainT, ixE, slE, partO, intO, itemsO, yesT, anyI, enumI, zipI, rng1I, rng2I, walkO, lcE, lcK, wipeR, noX, forS, forK, methV, tyOk, par2S, tupG, gsK, subG, isiV, lenV, intV, strV, Rx.absV, maxV, minV, allV, sumV, sortedV, tupleV, listV, divmodV, tyD, truV, binV, negV, cmpV, cmpI, addV, subV, powV, modV, divV, mulV, slV, ixV, isV, isNonD, m_wrong_in, n1] at h1 ⊢
  exact h1
theorem wrong_rising_ok {xs : List Int} (h : Grp xs) (τ : Sto) : m_wrong_in_rising [tupI xs, .int 1, .int 9] τ = .ok (.lst []) τ := by
  have h1 := wrong_in_ok h τ
  have n1 : (1 : Int) ≤ xs.length := by have := h.n1; omega
  have n9 : (xs.length : Int) ≤ 9 := by have := h.n9; omega
  simp [runS, startR, seqS, ifS, retS, retN, passS, dropS, asgS, nameG, vE, kE, getS, argsE, callF, callKF, callV, lstE, tupE, mkT, mkL, M.bind, M.pure, M.bad, rd, ofO, andsE, orsE, andsT, orsT, andE, orE, notE, andT, orT, notT, truT, ifE, binE, negE, cmpE, cmpT, chainE, chainT, ixE, slE, partO, intO, itemsO, yesT, anyI, enumI, zipI, rng1I, rng2I, walkO, lcE, lcK, wipeR, noX, forS, forK, methV, tyOk, par2S, tupG, gsK, subG, isiV, lenV, intV, strV, Rx.absV, maxV, minV, allV, sumV, sortedV, tupleV, listV, divmodV, tyD, truV, binV, negV, cmpV, cmpI, addV, subV, powV, modV, divV, mulV, slV, ixV, isV, isNonD, m_wrong_in_rising, n1, n9, h1]
theorem wrong_group_ok {xs : List Int} (h : Grp xs) (τ : Sto) : m_wrong_in_group [tupI xs] τ = .ok (.lst []) τ := by
  have h1 := wrong_rising_ok h τ
  simp [runS, startR, seqS, ifS, retS, retN, passS, dropS, asgS, nameG, vE, kE, getS, argsE, callF, callKF, callV, lstE, tupE, mkT, mkL, M.bind, M.pure, M.bad, rd, ofO, andsE, orsE, andsT, orsT, andE, orE, notE, andT, orT, notT, truT, ifE, binE, negE, cmpE, cmpT, chainE, chainT, ixE, slE, partO, intO, itemsO, yesT, anyI, enumI, zipI, rng1I, rng2I, walkO, lcE, lcK, wipeR, noX, forS, forK, methV, tyOk, par2S, tupG, gsK, subG, isiV, lenV, intV, strV, Rx.absV, maxV, minV, allV, sumV, sortedV, tupleV, listV, divmodV, tyD, truV, binV, negV, cmpV, cmpI, addV, subV, powV, modV, divV, mulV, slV, ixV, isV, isNonD, m_wrong_in_group, g_MOST_GROUP, h1]
theorem check_group_ok {xs : List Int} (h : Grp xs) (τ : Sto) : m_check_group [tupI xs] τ = .ok .non τ := by
  have h1 := wrong_group_ok h τ
  simp [runS, startR, seqS, ifS, retS, retN, passS, dropS, asgS, nameG, vE, kE, getS, argsE, callF, callKF, callV, lstE, tupE, mkT, mkL, M.bind, M.pure, M.bad, rd, ofO, andsE, orsE, andsT, orsT, andE, orE, notE, andT, orT, notT, truT, ifE, binE, negE, cmpE, cmpT, chainE, chainT, ixE, slE, partO, intO, itemsO, yesT, anyI, enumI, zipI, rng1I, rng2I, walkO, lcE, lcK, wipeR, noX, forS, forK, methV, tyOk, par2S, tupG, gsK, subG, isiV, lenV, intV, strV, Rx.absV, maxV, minV, allV, sumV, sortedV, tupleV, listV, divmodV, tyD, truV, binV, negV, cmpV, cmpI, addV, subV, powV, modV, divV, mulV, slV, ixV, isV, isNonD, m_check_group, h1]
theorem check_two_ok {xs ys : List Int} (h : Grp xs) (h' : Grp ys) (hb : xs.length + ys.length ≤ 10) (τ : Sto) : m_check_two [tupI xs, tupI ys] τ = .ok .non τ := by
  have h1 := check_group_ok h τ
  have h2 := check_group_ok h' τ
  have n : ¬ ((10 : Int) < xs.length + ys.length) := by omega
  have h3 : m_are_too_many [tupI xs, tupI ys] τ = .ok (.bl false) τ := by simp [runS, startR, seqS, ifS, retS, retN, passS, dropS, asgS, nameG, vE, kE, getS, argsE, callF, callKF, callV, lstE, tupE, mkT, mkL, M.bind, M.pure, M.bad, rd, ofO, andsE, orsE, andsT, orsT, andE, orE, notE, andT, orT, notT, truT, ifE, binE, negE, cmpE, cmpT, chainE, chainT, ixE, slE, partO, intO, itemsO, yesT, anyI, enumI, zipI, rng1I, rng2I, walkO, lcE, lcK, wipeR, noX, forS, forK, methV, tyOk, par2S, tupG, gsK, subG, isiV, lenV, intV, strV, Rx.absV, maxV, minV, allV, sumV, sortedV, tupleV, listV, divmodV, tyD, truV, binV, negV, cmpV, cmpI, addV, subV, powV, modV, divV, mulV, slV, ixV, isV, isNonD, m_are_too_many, g_MOST_BOTH, n]
  simp [runS, startR, seqS, ifS, retS, retN, passS, dropS, asgS, nameG, vE, kE, getS, argsE, callF, callKF, callV, lstE, tupE, mkT, mkL, M.bind, M.pure, M.bad, rd, ofO, andsE, orsE, andsT, orsT, andE, orE, notE, andT, orT, notT, truT, ifE, binE, negE, cmpE, cmpT, chainE, chainT, ixE, slE, partO, intO, itemsO, yesT, anyI, enumI, zipI, rng1I, rng2I, walkO, lcE, lcK, wipeR, noX, forS, forK, methV, tyOk, par2S, tupG, gsK, subG, isiV, lenV, intV, strV, Rx.absV, maxV, minV, allV, sumV, sortedV, tupleV, listV, divmodV, tyD, truV, binV, negV, cmpV, cmpI, addV, subV, powV, modV, divV, mulV, slV, ixV, isV, isNonD, m_check_two, h1, h2, h3]
theorem len3 (w : Str) (h : w = "one" ∨ w = "two") : w.length ≤ 3 := by
  rcases h with rfl | rfl <;> decide +kernel
theorem group_rows_ok {xs ys : List Int} (h : Grp xs) (h' : Grp ys) (hb : xs.length + ys.length ≤ 10) (τ : Sto) : m_group_rows [tupI xs, tupI ys] τ = .ok (.tup [.str (lineOf "one" xs), .str (lineOf "two" ys)]) τ := by
  have h1 := check_two_ok h h' hb τ
  have h2 := line_of_ok (len3 "one" (.inl rfl)) h τ
  have h3 := line_of_ok (len3 "two" (.inr rfl)) h' τ
  have hz : 2 ≤ sizeLine := by rw [sizeLine_eq]; omega
  simp [runS, startR, seqS, ifS, retS, retN, passS, dropS, asgS, nameG, vE, kE, getS, argsE, callF, callKF, callV, lstE, tupE, mkT, mkL, M.bind, M.pure, M.bad, rd, ofO, andsE, orsE, andsT, orsT, andE, orE, notE, andT, orT, notT, truT, ifE, binE, negE, cmpE, cmpT, chainE, chainT, ixE, slE, partO, intO, itemsO, yesT, anyI, enumI, zipI, rng1I, rng2I, walkO, lcE, lcK, wipeR, noX, forS, forK, methV, tyOk, par2S, tupG, gsK, subG, isiV, lenV, intV, strV, Rx.absV, maxV, minV, allV, sumV, sortedV, tupleV, listV, divmodV, tyD, truV, binV, negV, cmpV, cmpI, addV, subV, powV, modV, divV, mulV, slV, ixV, isV, isNonD, m_group_rows, g_ONE, g_TWO, h1, h2, h3, hz]
/-! ### the text is read back -/
theorem no32_one : 32 ∉ (Str.ofString "one").cps.toList := by decide +kernel
theorem no32_two : 32 ∉ (Str.ofString "two").cps.toList := by decide +kernel
theorem split_line {w : Str} (hw : 32 ∉ w.cps.toList) {xs : List Int} (h : Grp xs) : Txt.split (lineOf w xs) (Str.ofString " ") = w :: xs.map sv := by
  refine TL.split_join (s := 32) (S := []) (by decide +kernel) (by decide +kernel) (by simp [runS, startR, seqS, ifS, retS, retN, passS, dropS, asgS, nameG, vE, kE, getS, argsE, callF, callKF, callV, lstE, tupE, mkT, mkL, M.bind, M.pure, M.bad, rd, ofO, andsE, orsE, andsT, orsT, andE, orE, notE, andT, orT, notT, truT, ifE, binE, negE, cmpE, cmpT, chainE, chainT, ixE, slE, partO, intO, itemsO, yesT, anyI, enumI, zipI, rng1I, rng2I, walkO, lcE, lcK, wipeR, noX, forS, forK, methV, tyOk, par2S, tupG, gsK, subG, isiV, lenV, intV, strV, Rx.absV, maxV, minV, allV, sumV, sortedV, tupleV, listV, divmodV, tyD, truV, binV, negV, cmpV, cmpI, addV, subV, powV, modV, divV, mulV, slV, ixV, isV, isNonD]) fun p hp => ?_
  rcases List.mem_cons.mp hp with rfl | hp
  · exact hw
  · obtain ⟨v, hv, rfl⟩ := List.mem_map.mp hp
    exact (i_all (h.lo v hv).1 (h.lo v hv).2).2.1
theorem join_len (S : List Nat) : ∀ ps : List (List Nat), (TL.joinL S ps).length ≤ (ps.map List.length).sum + S.length * ps.length
  | [] => by simp [runS, startR, seqS, ifS, retS, retN, passS, dropS, asgS, nameG, vE, kE, getS, argsE, callF, callKF, callV, lstE, tupE, mkT, mkL, M.bind, M.pure, M.bad, rd, ofO, andsE, orsE, andsT, orsT, andE, orE, notE, andT, orT, notT, truT, ifE, binE, negE, cmpE, cmpT, chainE, chainT, ixE, slE, partO, intO, itemsO, yesT, anyI, enumI, zipI, rng1I, rng2I, walkO, lcE, lcK, wipeR, noX, forS, forK, methV, tyOk, par2S, tupG, gsK, subG, isiV, lenV, intV, strV, Rx.absV, maxV, minV, allV, sumV, sortedV, tupleV, listV, divmodV, tyD, truV, binV, negV, cmpV, cmpI, addV, subV, powV, modV, divV, mulV, slV, ixV, isV, isNonD, TL.joinL]
  | [p] => by simp [runS, startR, seqS, ifS, retS, retN, passS, dropS, asgS, nameG, vE, kE, getS, argsE, callF, callKF, callV, lstE, tupE, mkT, mkL, M.bind, M.pure, M.bad, rd, ofO, andsE, orsE, andsT, orsT, andE, orE, notE, andT, orT, notT, truT, ifE, binE, negE, cmpE, cmpT, chainE, chainT, ixE, slE, partO, intO, itemsO, yesT, anyI, enumI, zipI, rng1I, rng2I, walkO, lcE, lcK, wipeR, noX, forS, forK, methV, tyOk, par2S, tupG, gsK, subG, isiV, lenV, intV, strV, Rx.absV, maxV, minV, allV, sumV, sortedV, tupleV, listV, divmodV, tyD, truV, binV, negV, cmpV, cmpI, addV, subV, powV, modV, divV, mulV, slV, ixV, isV, isNonD, TL.joinL]
  | p :: q :: r => by
    have ih := join_len S (q :: r)
    show (p ++ (S ++ TL.joinL S (q :: r))).length ≤ _
    simp only [List.length_append, List.map_cons, List.sum_cons, List.length_cons] at ih ⊢
    have e : S.length * (r.length + 1 + 1) = S.length * (r.length + 1) + S.length := by rw [Nat.mul_succ]
    omega
theorem join_all (S : List Nat) (B : Nat) (hS : ∀ c ∈ S, c < B) : ∀ ps : List (List Nat), (∀ p ∈ ps, ∀ c ∈ p, c < B) → ∀ c ∈ TL.joinL S ps, c < B
  | [], _, c, hc => by simp [runS, startR, seqS, ifS, retS, retN, passS, dropS, asgS, nameG, vE, kE, getS, argsE, callF, callKF, callV, lstE, tupE, mkT, mkL, M.bind, M.pure, M.bad, rd, ofO, andsE, orsE, andsT, orsT, andE, orE, notE, andT, orT, notT, truT, ifE, binE, negE, cmpE, cmpT, chainE, chainT, ixE, slE, partO, intO, itemsO, yesT, anyI, enumI, zipI, rng1I, rng2I, walkO, lcE, lcK, wipeR, noX, forS, forK, methV, tyOk, par2S, tupG, gsK, subG, isiV, lenV, intV, strV, Rx.absV, maxV, minV, allV, sumV, sortedV, tupleV, listV, divmodV, tyD, truV, binV, negV, cmpV, cmpI, addV, subV, powV, modV, divV, mulV, slV, ixV, isV, isNonD, TL.joinL] at hc
  | [p], h, c, hc => h p List.mem_cons_self c hc
  | p :: q :: r, h, c, hc => by
    have hc : c ∈ p ++ (S ++ TL.joinL S (q :: r)) := hc
    rcases List.mem_append.mp hc with z | z
    · exact h p List.mem_cons_self c z
    · rcases List.mem_append.mp z with z | z
      · exact hS c z
      · exact join_all S B hS (q :: r) (fun p' hp => h p' (List.mem_cons_of_mem _ hp)) c z
theorem tl_line (w : Str) (xs : List Int) : (lineOf w xs).cps.toList = TL.joinL [32] ((w :: xs.map sv).map TL.tl) := by
  unfold lineOf
  rw [TL.join_eq]
  have e : TL.tl (Str.ofString " ") = [32] := by decide +kernel
  have := TL.tl_join (Str.ofString " ") (w :: xs.map sv)
  rw [e] at this
  exact this
theorem line_len {w : Str} (hw : w.length ≤ 3) {xs : List Int} (h : Grp xs) : (lineOf w xs).length ≤ 100 := by
  have h9 := h.n9
  have hs := len_sum h.lo
  have e1 : (lineOf w xs).length = (lineOf w xs).cps.toList.length := TL.len_tl _
  rw [e1, tl_line]
  have := join_len [32] ((w :: xs.map sv).map TL.tl)
  have e2 : (((w :: xs.map sv).map TL.tl).map List.length).sum = w.length + ((xs.map sv).map (·.length)).sum := by
    simp only [List.map_cons, List.sum_cons, List.map_map]
    congr 2
  rw [e2] at this
  simp only [List.length_map, List.length_cons, List.length_nil] at this
  omega
theorem line_ok {w : Str} (hw : ∀ c ∈ w.cps.toList, c < 256) {xs : List Int} (h : Grp xs) : PyData.strOk (lineOf w xs) = true := by
  unfold PyData.strOk
  rw [Array.all_eq_true']
  intro c hc
  have hc : c ∈ (lineOf w xs).cps.toList := by simpa [runS, startR, seqS, ifS, retS, retN, passS, dropS, asgS, nameG, vE, kE, getS, argsE, callF, callKF, callV, lstE, tupE, mkT, mkL, M.bind, M.pure, M.bad, rd, ofO, andsE, orsE, andsT, orsT, andE, orE, notE, andT, orT, notT, truT, ifE, binE, negE, cmpE, cmpT, chainE, chainT, ixE, slE, partO, intO, itemsO, yesT, anyI, enumI, zipI, rng1I, rng2I, walkO, lcE, lcK, wipeR, noX, forS, forK, methV, tyOk, par2S, tupG, gsK, subG, isiV, lenV, intV, strV, Rx.absV, maxV, minV, allV, sumV, sortedV, tupleV, listV, divmodV, tyD, truV, binV, negV, cmpV, cmpI, addV, subV, powV, modV, divV, mulV, slV, ixV, isV, isNonD] using hc
  rw [tl_line] at hc
  have := join_all [32] 256 (by simp [runS, startR, seqS, ifS, retS, retN, passS, dropS, asgS, nameG, vE, kE, getS, argsE, callF, callKF, callV, lstE, tupE, mkT, mkL, M.bind, M.pure, M.bad, rd, ofO, andsE, orsE, andsT, orsT, andE, orE, notE, andT, orT, notT, truT, ifE, binE, negE, cmpE, cmpT, chainE, chainT, ixE, slE, partO, intO, itemsO, yesT, anyI, enumI, zipI, rng1I, rng2I, walkO, lcE, lcK, wipeR, noX, forS, forK, methV, tyOk, par2S, tupG, gsK, subG, isiV, lenV, intV, strV, Rx.absV, maxV, minV, allV, sumV, sortedV, tupleV, listV, divmodV, tyD, truV, binV, negV, cmpV, cmpI, addV, subV, powV, modV, divV, mulV, slV, ixV, isV, isNonD]) _ (fun p hp => ?_) c hc
  · exact decide_eq_true (by omega)
  · obtain ⟨z, hz, rfl⟩ := List.mem_map.mp hp
    rcases List.mem_cons.mp hz with rfl | hz
    · exact hw
    · obtain ⟨v, hv, rfl⟩ := List.mem_map.mp hz
      exact (i_all2 (h.lo v hv).1 (h.lo v hv).2).2.2.2
theorem cut_tail {ds : List D} (h : 1 ≤ ds.length) : Rx.cutD ds (some 1) none = ds.drop 1 := by
  unfold Rx.cutD
  rw [HT.sIx_none, show (1 : Int) = ((1 : Nat) : Int) from rfl, HT.sIx_nat, Nat.min_eq_left h]
  exact List.take_of_length_le (by simp [runS, startR, seqS, ifS, retS, retN, passS, dropS, asgS, nameG, vE, kE, getS, argsE, callF, callKF, callV, lstE, tupE, mkT, mkL, M.bind, M.pure, M.bad, rd, ofO, andsE, orsE, andsT, orsT, andE, orE, notE, andT, orT, notT, truT, ifE, binE, negE, cmpE, cmpT, chainE, chainT, ixE, slE, partO, intO, itemsO, yesT, anyI, enumI, zipI, rng1I, rng2I, walkO, lcE, lcK, wipeR, noX, forS, forK, methV, tyOk, par2S, tupG, gsK, subG, isiV, lenV, intV, strV, Rx.absV, maxV, minV, allV, sumV, sortedV, tupleV, listV, divmodV, tyD, truV, binV, negV, cmpV, cmpI, addV, subV, powV, modV, divV, mulV, slV, ixV, isV, isNonD])
theorem told_by_ok {w : Str} (hw : w.length ≤ 3) (hn : 32 ∉ w.cps.toList) (hk : PyData.strOk w = true) {xs : List Int} (h : Grp xs) (τ : Sto) : m_told_by [.str w, .str (lineOf w xs)] τ = .ok (tupI xs) τ := by
  have hs := split_line hn h
  have hl : (lineOf w xs).length + 2 ≤ sizeLine := by have := line_len hw h; rw [sizeLine_eq]; omega
  have h9 := h.n9
  have h1 := h.n1
  have hsp : ((Str.ofString " ").length == 0) = false := by decide +kernel
  have ht : Rx.cutD (.str w :: (xs.map sv).map D.str) (some 1) none = (xs.map sv).map D.str := by rw [cut_tail (by simp [runS, startR, seqS, ifS, retS, retN, passS, dropS, asgS, nameG, vE, kE, getS, argsE, callF, callKF, callV, lstE, tupE, mkT, mkL, M.bind, M.pure, M.bad, rd, ofO, andsE, orsE, andsT, orsT, andE, orE, notE, andT, orT, notT, truT, ifE, binE, negE, cmpE, cmpT, chainE, chainT, ixE, slE, partO, intO, itemsO, yesT, anyI, enumI, zipI, rng1I, rng2I, walkO, lcE, lcK, wipeR, noX, forS, forK, methV, tyOk, par2S, tupG, gsK, subG, isiV, lenV, intV, strV, Rx.absV, maxV, minV, allV, sumV, sortedV, tupleV, listV, divmodV, tyD, truV, binV, negV, cmpV, cmpI, addV, subV, powV, modV, divV, mulV, slV, ixV, isV, isNonD])]; rfl
  have hz : xs.length ≤ sizeLine := by rw [sizeLine_eq]; omega
  have e0 : eqO (.str w) (.str w) = some true := eqO_yes (n := 0) (by decide) hk
  have a1 : ∀ d ∈ (xs.map sv).map D.str, (callF m_is_whole_word [.one (vE 3)]) ([some (.str w), some (.str (lineOf w xs)), some (.lst (.str w :: (xs.map sv).map D.str)), none].set 3 (some d)) τ = .ok ((fun _ => .bl true) d) τ := by
    intro d hd
    obtain ⟨z, hz, rfl⟩ := List.mem_map.mp hd
    obtain ⟨v, hv, rfl⟩ := List.mem_map.mp hz
    have := w_ok (h.lo v hv).1 (h.lo v hv).2 τ
    simp [runS, startR, seqS, ifS, retS, retN, passS, dropS, asgS, nameG, vE, kE, getS, argsE, callF, callKF, callV, lstE, tupE, mkT, mkL, M.bind, M.pure, M.bad, rd, ofO, andsE, orsE, andsT, orsT, andE, orE, notE, andT, orT, notT, truT, ifE, binE, negE, cmpE, cmpT, chainE, chainT, ixE, slE, partO, intO, itemsO, yesT, anyI, enumI, zipI, rng1I, rng2I, walkO, lcE, lcK, wipeR, noX, forS, forK, methV, tyOk, par2S, tupG, gsK, subG, isiV, lenV, intV, strV, Rx.absV, maxV, minV, allV, sumV, sortedV, tupleV, listV, divmodV, tyD, truV, binV, negV, cmpV, cmpI, addV, subV, powV, modV, divV, mulV, slV, ixV, isV, isNonD, this]
  have a2 := lc_map (ρ := [some (.str w), some (.str (lineOf w xs)), some (.lst (.str w :: (xs.map sv).map D.str)), none]) _ ((xs.map sv).map D.str) [] (by simpa [runS, startR, seqS, ifS, retS, retN, passS, dropS, asgS, nameG, vE, kE, getS, argsE, callF, callKF, callV, lstE, tupE, mkT, mkL, M.bind, M.pure, M.bad, rd, ofO, andsE, orsE, andsT, orsT, andE, orE, notE, andT, orT, notT, truT, ifE, binE, negE, cmpE, cmpT, chainE, chainT, ixE, slE, partO, intO, itemsO, yesT, anyI, enumI, zipI, rng1I, rng2I, walkO, lcE, lcK, wipeR, noX, forS, forK, methV, tyOk, par2S, tupG, gsK, subG, isiV, lenV, intV, strV, Rx.absV, maxV, minV, allV, sumV, sortedV, tupleV, listV, divmodV, tyD, truV, binV, negV, cmpV, cmpI, addV, subV, powV, modV, divV, mulV, slV, ixV, isV, isNonD] using hz) a1
  have b1 : ∀ d ∈ (xs.map sv).map D.str, (callV intV [.one (vE 3)]) ([some (.str w), some (.str (lineOf w xs)), some (.lst (.str w :: (xs.map sv).map D.str)), none].set 3 (some d)) τ = .ok ((fun d => match d with | .str s => .int ((intText? s).getD 0) | _ => .non) d) τ := by
    intro d hd
    obtain ⟨z, hz, rfl⟩ := List.mem_map.mp hd
    obtain ⟨v, hv, rfl⟩ := List.mem_map.mp hz
    have h3 := i_all (h.lo v hv).1 (h.lo v hv).2
    have h4 : (sv v).length ≤ 640 := by omega
    simp [runS, startR, seqS, ifS, retS, retN, passS, dropS, asgS, nameG, vE, kE, getS, argsE, callF, callKF, callV, lstE, tupE, mkT, mkL, M.bind, M.pure, M.bad, rd, ofO, andsE, orsE, andsT, orsT, andE, orE, notE, andT, orT, notT, truT, ifE, binE, negE, cmpE, cmpT, chainE, chainT, ixE, slE, partO, intO, itemsO, yesT, anyI, enumI, zipI, rng1I, rng2I, walkO, lcE, lcK, wipeR, noX, forS, forK, methV, tyOk, par2S, tupG, gsK, subG, isiV, lenV, intV, strV, Rx.absV, maxV, minV, allV, sumV, sortedV, tupleV, listV, divmodV, tyD, truV, binV, negV, cmpV, cmpI, addV, subV, powV, modV, divV, mulV, slV, ixV, isV, isNonD, h3.1, h4]
  have b2 := lc_map (ρ := [some (.str w), some (.str (lineOf w xs)), some (.lst (.str w :: (xs.map sv).map D.str)), none]) _ ((xs.map sv).map D.str) [] (by simpa [runS, startR, seqS, ifS, retS, retN, passS, dropS, asgS, nameG, vE, kE, getS, argsE, callF, callKF, callV, lstE, tupE, mkT, mkL, M.bind, M.pure, M.bad, rd, ofO, andsE, orsE, andsT, orsT, andE, orE, notE, andT, orT, notT, truT, ifE, binE, negE, cmpE, cmpT, chainE, chainT, ixE, slE, partO, intO, itemsO, yesT, anyI, enumI, zipI, rng1I, rng2I, walkO, lcE, lcK, wipeR, noX, forS, forK, methV, tyOk, par2S, tupG, gsK, subG, isiV, lenV, intV, strV, Rx.absV, maxV, minV, allV, sumV, sortedV, tupleV, listV, divmodV, tyD, truV, binV, negV, cmpV, cmpI, addV, subV, powV, modV, divV, mulV, slV, ixV, isV, isNonD] using hz) b1
  have e1 : ((xs.map sv).map D.str).map (fun d => match d with | .str s => D.int ((intText? s).getD 0) | _ => .non) = xs.map D.int := by
    rw [List.map_map, List.map_map]
    exact List.map_congr_left fun v hv => by
      have h3 := i_all (h.lo v hv).1 (h.lo v hv).2
      simp [runS, startR, seqS, ifS, retS, retN, passS, dropS, asgS, nameG, vE, kE, getS, argsE, callF, callKF, callV, lstE, tupE, mkT, mkL, M.bind, M.pure, M.bad, rd, ofO, andsE, orsE, andsT, orsT, andE, orE, notE, andT, orT, notT, truT, ifE, binE, negE, cmpE, cmpT, chainE, chainT, ixE, slE, partO, intO, itemsO, yesT, anyI, enumI, zipI, rng1I, rng2I, walkO, lcE, lcK, wipeR, noX, forS, forK, methV, tyOk, par2S, tupG, gsK, subG, isiV, lenV, intV, strV, Rx.absV, maxV, minV, allV, sumV, sortedV, tupleV, listV, divmodV, tyD, truV, binV, negV, cmpV, cmpI, addV, subV, powV, modV, divV, mulV, slV, ixV, isV, isNonD, h3.1]
  rw [e1, List.nil_append] at b2
  have e2 : blsO (((xs.map sv).map D.str).map fun _ => D.bl true) = some (List.replicate xs.length true) := by
    have := blsO_map (List.replicate xs.length true)
    rw [List.map_replicate] at this
    rw [← this]
    congr 1
    exact List.eq_replicate_iff.mpr ⟨by simp [runS, startR, seqS, ifS, retS, retN, passS, dropS, asgS, nameG, vE, kE, getS, argsE, callF, callKF, callV, lstE, tupE, mkT, mkL, M.bind, M.pure, M.bad, rd, ofO, andsE, orsE, andsT, orsT, andE, orE, notE, andT, orT, notT, truT, ifE, binE, negE, cmpE, cmpT, chainE, chainT, ixE, slE, partO, intO, itemsO, yesT, anyI, enumI, zipI, rng1I, rng2I, walkO, lcE, lcK, wipeR, noX, forS, forK, methV, tyOk, par2S, tupG, gsK, subG, isiV, lenV, intV, strV, Rx.absV, maxV, minV, allV, sumV, sortedV, tupleV, listV, divmodV, tyD, truV, binV, negV, cmpV, cmpI, addV, subV, powV, modV, divV, mulV, slV, ixV, isV, isNonD], fun b hb => by obtain ⟨z, _, rfl⟩ := List.mem_map.mp hb; rfl⟩
  rw [List.nil_append] at a2
  have n2 : ¬ ((xs.length : Int) + 1 < 2) := by omega
  simp only [List.map_map, Function.comp_def] at a2 b2 ht e2 hs
  have hsp2 : (Str.ofString " ").length ≠ 0 := by simpa [runS, startR, seqS, ifS, retS, retN, passS, dropS, asgS, nameG, vE, kE, getS, argsE, callF, callKF, callV, lstE, tupE, mkT, mkL, M.bind, M.pure, M.bad, rd, ofO, andsE, orsE, andsT, orsT, andE, orE, notE, andT, orT, notT, truT, ifE, binE, negE, cmpE, cmpT, chainE, chainT, ixE, slE, partO, intO, itemsO, yesT, anyI, enumI, zipI, rng1I, rng2I, walkO, lcE, lcK, wipeR, noX, forS, forK, methV, tyOk, par2S, tupG, gsK, subG, isiV, lenV, intV, strV, Rx.absV, maxV, minV, allV, sumV, sortedV, tupleV, listV, divmodV, tyD, truV, binV, negV, cmpV, cmpI, addV, subV, powV, modV, divV, mulV, slV, ixV, isV, isNonD] using hsp
  simp [runS, startR, seqS, ifS, retS, retN, passS, dropS, asgS, nameG, vE, kE, getS, argsE, callF, callKF, callV, lstE, tupE, mkT, mkL, M.bind, M.pure, M.bad, rd, ofO, andsE, orsE, andsT, orsT, andE, orE, notE, andT, orT, notT, truT, ifE, binE, negE, cmpE, cmpT, chainE, chainT, ixE, slE, partO, intO, itemsO, yesT, anyI, enumI, zipI, rng1I, rng2I, walkO, lcE, lcK, wipeR, noX, forS, forK, methV, tyOk, par2S, tupG, gsK, subG, isiV, lenV, intV, strV, Rx.absV, maxV, minV, allV, sumV, sortedV, tupleV, listV, divmodV, tyD, truV, binV, negV, cmpV, cmpI, addV, subV, powV, modV, divV, mulV, slV, ixV, isV, isNonD, m_told_by, splitV, hsp2, hl, hs, n2, e0, atI, ixN, ht, a2, b2, e2, Function.comp_def]
theorem ok_one : PyData.strOk "one" = true := by decide +kernel
theorem ok_two : PyData.strOk "two" = true := by decide +kernel
theorem lt_one : ∀ c ∈ (Str.ofString "one").cps.toList, c < 256 := by decide +kernel
theorem lt_two : ∀ c ∈ (Str.ofString "two").cps.toList, c < 256 := by decide +kernel
/-- the rows of two groups -/
abbrev rowsOf (xs ys : List Int) : D := .tup [.str (lineOf "one" xs), .str (lineOf "two" ys)]
theorem ne_nil {xs : List Int} (h : Grp xs) : eqO (tupI xs) (.tup []) = some false := by
  have h1 := h.n1
  refine eqO_no (n := 3) (by decide) (by simp [runS, startR, seqS, ifS, retS, retN, passS, dropS, asgS, nameG, vE, kE, getS, argsE, callF, callKF, callV, lstE, tupE, mkT, mkL, M.bind, M.pure, M.bad, rd, ofO, andsE, orsE, andsT, orsT, andE, orE, notE, andT, orT, notT, truT, ifE, binE, negE, cmpE, cmpT, chainE, chainT, ixE, slE, partO, intO, itemsO, yesT, anyI, enumI, zipI, rng1I, rng2I, walkO, lcE, lcK, wipeR, noX, forS, forK, methV, tyOk, par2S, tupG, gsK, subG, isiV, lenV, intV, strV, Rx.absV, maxV, minV, allV, sumV, sortedV, tupleV, listV, divmodV, tyD, truV, binV, negV, cmpV, cmpI, addV, subV, powV, modV, divV, mulV, slV, ixV, isV, isNonD, okD, okDs_ints]) (by simp [runS, startR, seqS, ifS, retS, retN, passS, dropS, asgS, nameG, vE, kE, getS, argsE, callF, callKF, callV, lstE, tupE, mkT, mkL, M.bind, M.pure, M.bad, rd, ofO, andsE, orsE, andsT, orsT, andE, orE, notE, andT, orT, notT, truT, ifE, binE, negE, cmpE, cmpT, chainE, chainT, ixE, slE, partO, intO, itemsO, yesT, anyI, enumI, zipI, rng1I, rng2I, walkO, lcE, lcK, wipeR, noX, forS, forK, methV, tyOk, par2S, tupG, gsK, subG, isiV, lenV, intV, strV, Rx.absV, maxV, minV, allV, sumV, sortedV, tupleV, listV, divmodV, tyD, truV, binV, negV, cmpV, cmpI, addV, subV, powV, modV, divV, mulV, slV, ixV, isV, isNonD, okD, okDs]) ?_
  intro z
  simp [runS, startR, seqS, ifS, retS, retN, passS, dropS, asgS, nameG, vE, kE, getS, argsE, callF, callKF, callV, lstE, tupE, mkT, mkL, M.bind, M.pure, M.bad, rd, ofO, andsE, orsE, andsT, orsT, andE, orE, notE, andT, orT, notT, truT, ifE, binE, negE, cmpE, cmpT, chainE, chainT, ixE, slE, partO, intO, itemsO, yesT, anyI, enumI, zipI, rng1I, rng2I, walkO, lcE, lcK, wipeR, noX, forS, forK, methV, tyOk, par2S, tupG, gsK, subG, isiV, lenV, intV, strV, Rx.absV, maxV, minV, allV, sumV, sortedV, tupleV, listV, divmodV, tyD, truV, binV, negV, cmpV, cmpI, addV, subV, powV, modV, divV, mulV, slV, ixV, isV, isNonD] at z
  rw [z] at h1
  simp [runS, startR, seqS, ifS, retS, retN, passS, dropS, asgS, nameG, vE, kE, getS, argsE, callF, callKF, callV, lstE, tupE, mkT, mkL, M.bind, M.pure, M.bad, rd, ofO, andsE, orsE, andsT, orsT, andE, orE, notE, andT, orT, notT, truT, ifE, binE, negE, cmpE, cmpT, chainE, chainT, ixE, slE, partO, intO, itemsO, yesT, anyI, enumI, zipI, rng1I, rng2I, walkO, lcE, lcK, wipeR, noX, forS, forK, methV, tyOk, par2S, tupG, gsK, subG, isiV, lenV, intV, strV, Rx.absV, maxV, minV, allV, sumV, sortedV, tupleV, listV, divmodV, tyD, truV, binV, negV, cmpV, cmpI, addV, subV, powV, modV, divV, mulV, slV, ixV, isV, isNonD] at h1
theorem wrong_rows_ok {xs ys : List Int} (h : Grp xs) (h' : Grp ys) (τ : Sto) : m_wrong_in_rows [rowsOf xs ys] τ = .ok (.lst []) τ := by
  have h1 := told_by_ok (len3 "one" (.inl rfl)) no32_one ok_one h τ
  have h2 := told_by_ok (len3 "two" (.inr rfl)) no32_two ok_two h' τ
  have n1 := ne_nil h
  have n2 := ne_nil h'
  have hp : m_is_pair [rowsOf xs ys] τ = .ok (.bl true) τ := by
    have : m_is_tuple_of [rowsOf xs ys, .int 2] τ = .ok (.bl true) τ := by
      have e : eqO (.int 2) (.int 2) = some true := eqO_yes (n := 0) (by decide) rfl
      simp [runS, startR, seqS, ifS, retS, retN, passS, dropS, asgS, nameG, vE, kE, getS, argsE, callF, callKF, callV, lstE, tupE, mkT, mkL, M.bind, M.pure, M.bad, rd, ofO, andsE, orsE, andsT, orsT, andE, orE, notE, andT, orT, notT, truT, ifE, binE, negE, cmpE, cmpT, chainE, chainT, ixE, slE, partO, intO, itemsO, yesT, anyI, enumI, zipI, rng1I, rng2I, walkO, lcE, lcK, wipeR, noX, forS, forK, methV, tyOk, par2S, tupG, gsK, subG, isiV, lenV, intV, strV, Rx.absV, maxV, minV, allV, sumV, sortedV, tupleV, listV, divmodV, tyD, truV, binV, negV, cmpV, cmpI, addV, subV, powV, modV, divV, mulV, slV, ixV, isV, isNonD, m_is_tuple_of, cmpV, e]
    simp [runS, startR, seqS, ifS, retS, retN, passS, dropS, asgS, nameG, vE, kE, getS, argsE, callF, callKF, callV, lstE, tupE, mkT, mkL, M.bind, M.pure, M.bad, rd, ofO, andsE, orsE, andsT, orsT, andE, orE, notE, andT, orT, notT, truT, ifE, binE, negE, cmpE, cmpT, chainE, chainT, ixE, slE, partO, intO, itemsO, yesT, anyI, enumI, zipI, rng1I, rng2I, walkO, lcE, lcK, wipeR, noX, forS, forK, methV, tyOk, par2S, tupG, gsK, subG, isiV, lenV, intV, strV, Rx.absV, maxV, minV, allV, sumV, sortedV, tupleV, listV, divmodV, tyD, truV, binV, negV, cmpV, cmpI, addV, subV, powV, modV, divV, mulV, slV, ixV, isV, isNonD, m_is_pair, this]
  have hc : Rx.cutD [] none (some 1) = [] := by unfold Rx.cutD; simp [runS, startR, seqS, ifS, retS, retN, passS, dropS, asgS, nameG, vE, kE, getS, argsE, callF, callKF, callV, lstE, tupE, mkT, mkL, M.bind, M.pure, M.bad, rd, ofO, andsE, orsE, andsT, orsT, andE, orE, notE, andT, orT, notT, truT, ifE, binE, negE, cmpE, cmpT, chainE, chainT, ixE, slE, partO, intO, itemsO, yesT, anyI, enumI, zipI, rng1I, rng2I, walkO, lcE, lcK, wipeR, noX, forS, forK, methV, tyOk, par2S, tupG, gsK, subG, isiV, lenV, intV, strV, Rx.absV, maxV, minV, allV, sumV, sortedV, tupleV, listV, divmodV, tyD, truV, binV, negV, cmpV, cmpI, addV, subV, powV, modV, divV, mulV, slV, ixV, isV, isNonD]
  simp [runS, startR, seqS, ifS, retS, retN, passS, dropS, asgS, nameG, vE, kE, getS, argsE, callF, callKF, callV, lstE, tupE, mkT, mkL, M.bind, M.pure, M.bad, rd, ofO, andsE, orsE, andsT, orsT, andE, orE, notE, andT, orT, notT, truT, ifE, binE, negE, cmpE, cmpT, chainE, chainT, ixE, slE, partO, intO, itemsO, yesT, anyI, enumI, zipI, rng1I, rng2I, walkO, lcE, lcK, wipeR, noX, forS, forK, methV, tyOk, par2S, tupG, gsK, subG, isiV, lenV, intV, strV, Rx.absV, maxV, minV, allV, sumV, sortedV, tupleV, listV, divmodV, tyD, truV, binV, negV, cmpV, cmpI, addV, subV, powV, modV, divV, mulV, slV, ixV, isV, isNonD, m_wrong_in_rows, hp, g_HEADS, Rx.numbered, atI, ixN, h1, h2, n1, n2, cmpV, hc]
theorem read_groups_ok {xs ys : List Int} (h : Grp xs) (h' : Grp ys) (hb : xs.length + ys.length ≤ 10) (τ : Sto) : m_read_groups [rowsOf xs ys] τ = .ok (.tup [tupI xs, tupI ys]) τ := by
  have h1 := told_by_ok (len3 "one" (.inl rfl)) no32_one ok_one h τ
  have h2 := told_by_ok (len3 "two" (.inr rfl)) no32_two ok_two h' τ
  have h3 := wrong_rows_ok h h' τ
  have h4 := check_two_ok h h' hb τ
  have hz : 2 ≤ sizeLine := by rw [sizeLine_eq]; omega
  simp [runS, startR, seqS, ifS, retS, retN, passS, dropS, asgS, nameG, vE, kE, getS, argsE, callF, callKF, callV, lstE, tupE, mkT, mkL, M.bind, M.pure, M.bad, rd, ofO, andsE, orsE, andsT, orsT, andE, orE, notE, andT, orT, notT, truT, ifE, binE, negE, cmpE, cmpT, chainE, chainT, ixE, slE, partO, intO, itemsO, yesT, anyI, enumI, zipI, rng1I, rng2I, walkO, lcE, lcK, wipeR, noX, forS, forK, methV, tyOk, par2S, tupG, gsK, subG, isiV, lenV, intV, strV, Rx.absV, maxV, minV, allV, sumV, sortedV, tupleV, listV, divmodV, tyD, truV, binV, negV, cmpV, cmpI, addV, subV, powV, modV, divV, mulV, slV, ixV, isV, isNonD, m_read_groups, h3, h4, h1, h2, g_ONE, g_TWO, atI, ixN, hz]
theorem law_line_ok {w : Str} (hw : w.length ≤ 3) {xs : List Int} (h : Grp xs) (τ : Sto) : m__law_line [.str w, tupI xs] τ = .ok (.str (lineOf w xs)) τ := by
  have h9 := h.n9
  have hs := len_sum h.lo
  have h1 : ∀ d ∈ xs.map D.int, (callV strV [.one (vE 2)]) ([some (.str w), some (tupI xs), none].set 2 (some d)) τ = .ok ((fun d => match d with | .int v => .str (sv v) | _ => .non) d) τ := by
    intro d hd
    obtain ⟨v, hv, rfl⟩ := List.mem_map.mp hd
    have hb := bits_small (h.lo v hv)
    simp [runS, startR, seqS, ifS, retS, retN, passS, dropS, asgS, nameG, vE, kE, getS, argsE, callF, callKF, callV, lstE, tupE, mkT, mkL, M.bind, M.pure, M.bad, rd, ofO, andsE, orsE, andsT, orsT, andE, orE, notE, andT, orT, notT, truT, ifE, binE, negE, cmpE, cmpT, chainE, chainT, ixE, slE, partO, intO, itemsO, yesT, anyI, enumI, zipI, rng1I, rng2I, walkO, lcE, lcK, wipeR, noX, forS, forK, methV, tyOk, par2S, tupG, gsK, subG, isiV, lenV, intV, strV, Rx.absV, maxV, minV, allV, sumV, sortedV, tupleV, listV, divmodV, tyD, truV, binV, negV, cmpV, cmpI, addV, subV, powV, modV, divV, mulV, slV, ixV, isV, isNonD, hb, sv]
  have h2 := lc_map (ρ := [some (.str w), some (tupI xs), none]) _ (xs.map D.int) [] (by simp [runS, startR, seqS, ifS, retS, retN, passS, dropS, asgS, nameG, vE, kE, getS, argsE, callF, callKF, callV, lstE, tupE, mkT, mkL, M.bind, M.pure, M.bad, rd, ofO, andsE, orsE, andsT, orsT, andE, orE, notE, andT, orT, notT, truT, ifE, binE, negE, cmpE, cmpT, chainE, chainT, ixE, slE, partO, intO, itemsO, yesT, anyI, enumI, zipI, rng1I, rng2I, walkO, lcE, lcK, wipeR, noX, forS, forK, methV, tyOk, par2S, tupG, gsK, subG, isiV, lenV, intV, strV, Rx.absV, maxV, minV, allV, sumV, sortedV, tupleV, listV, divmodV, tyD, truV, binV, negV, cmpV, cmpI, addV, subV, powV, modV, divV, mulV, slV, ixV, isV, isNonD]; rw [sizeLine_eq]; omega) h1
  have e2 : (xs.map D.int).map (fun d => match d with | .int v => D.str (sv v) | _ => .non) = xs.map fun v => D.str (sv v) := by simp [runS, startR, seqS, ifS, retS, retN, passS, dropS, asgS, nameG, vE, kE, getS, argsE, callF, callKF, callV, lstE, tupE, mkT, mkL, M.bind, M.pure, M.bad, rd, ofO, andsE, orsE, andsT, orsT, andE, orE, notE, andT, orT, notT, truT, ifE, binE, negE, cmpE, cmpT, chainE, chainT, ixE, slE, partO, intO, itemsO, yesT, anyI, enumI, zipI, rng1I, rng2I, walkO, lcE, lcK, wipeR, noX, forS, forK, methV, tyOk, par2S, tupG, gsK, subG, isiV, lenV, intV, strV, Rx.absV, maxV, minV, allV, sumV, sortedV, tupleV, listV, divmodV, tyD, truV, binV, negV, cmpV, cmpI, addV, subV, powV, modV, divV, mulV, slV, ixV, isV, isNonD, List.map_map]
  rw [e2, List.nil_append] at h2
  have hz : 1 + xs.length ≤ sizeLine := by rw [sizeLine_eq]; omega
  have hz1 : 1 ≤ sizeLine := by rw [sizeLine_eq]; omega
  have hq := strs_ints xs
  have hsum : w.length + ((xs.map fun v => (sv v).length)).sum + (xs.length + 1) * (Str.ofString " ").length ≤ 16777216 := by
    have : (Str.ofString " ").length = 1 := by decide +kernel
    rw [this]
    have e : (xs.map fun v => (sv v).length) = (xs.map sv).map (·.length) := by simp [runS, startR, seqS, ifS, retS, retN, passS, dropS, asgS, nameG, vE, kE, getS, argsE, callF, callKF, callV, lstE, tupE, mkT, mkL, M.bind, M.pure, M.bad, rd, ofO, andsE, orsE, andsT, orsT, andE, orE, notE, andT, orT, notT, truT, ifE, binE, negE, cmpE, cmpT, chainE, chainT, ixE, slE, partO, intO, itemsO, yesT, anyI, enumI, zipI, rng1I, rng2I, walkO, lcE, lcK, wipeR, noX, forS, forK, methV, tyOk, par2S, tupG, gsK, subG, isiV, lenV, intV, strV, Rx.absV, maxV, minV, allV, sumV, sortedV, tupleV, listV, divmodV, tyD, truV, binV, negV, cmpV, cmpI, addV, subV, powV, modV, divV, mulV, slV, ixV, isV, isNonD, List.map_map]
    rw [e]; omega
  simp [runS, startR, seqS, ifS, retS, retN, passS, dropS, asgS, nameG, vE, kE, getS, argsE, callF, callKF, callV, lstE, tupE, mkT, mkL, M.bind, M.pure, M.bad, rd, ofO, andsE, orsE, andsT, orsT, andE, orE, notE, andT, orT, notT, truT, ifE, binE, negE, cmpE, cmpT, chainE, chainT, ixE, slE, partO, intO, itemsO, yesT, anyI, enumI, zipI, rng1I, rng2I, walkO, lcE, lcK, wipeR, noX, forS, forK, methV, tyOk, par2S, tupG, gsK, subG, isiV, lenV, intV, strV, Rx.absV, maxV, minV, allV, sumV, sortedV, tupleV, listV, divmodV, tyD, truV, binV, negV, cmpV, cmpI, addV, subV, powV, modV, divV, mulV, slV, ixV, isV, isNonD, m__law_line, h2, joinV, hz, hz1, hq, strsO, List.map_map, Function.comp_def]
  rw [if_pos hsum]
  rfl
/-! ### like things are alike -/
theorem zip_same : ∀ ds : List D, pairsOf ds ds = ds.map fun d => .tup [d, d]
  | [] => rfl
  | d :: ds => by show _ :: pairsOf ds ds = _; rw [zip_same ds]; rfl
theorem lc_pair {i j : Nat} {el : Rho → M D} {ρ : Rho} {τ : Sto} {r : D} : ∀ (ds acc : List D), acc.length + ds.length ≤ sizeLine → (∀ d ∈ ds, el ((ρ.set i (some d)).set j (some d)) τ = .ok r τ) →
    lcK (tupG [nameG i, nameG j]) yesT el ρ (ds.map fun d => .tup [d, d]) acc τ = .ok (.lst (acc ++ List.replicate ds.length r)) τ
  | [], acc, _, _ => by simp [runS, startR, seqS, ifS, retS, retN, passS, dropS, asgS, nameG, vE, kE, getS, argsE, callF, callKF, callV, lstE, tupE, mkT, mkL, M.bind, M.pure, M.bad, rd, ofO, andsE, orsE, andsT, orsT, andE, orE, notE, andT, orT, notT, truT, ifE, binE, negE, cmpE, cmpT, chainE, chainT, ixE, slE, partO, intO, itemsO, yesT, anyI, enumI, zipI, rng1I, rng2I, walkO, lcE, lcK, wipeR, noX, forS, forK, methV, tyOk, par2S, tupG, gsK, subG, isiV, lenV, intV, strV, Rx.absV, maxV, minV, allV, sumV, sortedV, tupleV, listV, divmodV, tyD, truV, binV, negV, cmpV, cmpI, addV, subV, powV, modV, divV, mulV, slV, ixV, isV, isNonD]
  | d :: ds, acc, hl, h => by
    have h0 := h d List.mem_cons_self
    have ih := lc_pair (i := i) (j := j) (el := el) (ρ := ρ) (τ := τ) (r := r) ds (acc ++ [r]) (by simp [runS, startR, seqS, ifS, retS, retN, passS, dropS, asgS, nameG, vE, kE, getS, argsE, callF, callKF, callV, lstE, tupE, mkT, mkL, M.bind, M.pure, M.bad, rd, ofO, andsE, orsE, andsT, orsT, andE, orE, notE, andT, orT, notT, truT, ifE, binE, negE, cmpE, cmpT, chainE, chainT, ixE, slE, partO, intO, itemsO, yesT, anyI, enumI, zipI, rng1I, rng2I, walkO, lcE, lcK, wipeR, noX, forS, forK, methV, tyOk, par2S, tupG, gsK, subG, isiV, lenV, intV, strV, Rx.absV, maxV, minV, allV, sumV, sortedV, tupleV, listV, divmodV, tyD, truV, binV, negV, cmpV, cmpI, addV, subV, powV, modV, divV, mulV, slV, ixV, isV, isNonD] at hl ⊢; omega) fun e he => h e (List.mem_cons_of_mem _ he)
    have hz : acc.length < sizeLine := by simp [runS, startR, seqS, ifS, retS, retN, passS, dropS, asgS, nameG, vE, kE, getS, argsE, callF, callKF, callV, lstE, tupE, mkT, mkL, M.bind, M.pure, M.bad, rd, ofO, andsE, orsE, andsT, orsT, andE, orE, notE, andT, orT, notT, truT, ifE, binE, negE, cmpE, cmpT, chainE, chainT, ixE, slE, partO, intO, itemsO, yesT, anyI, enumI, zipI, rng1I, rng2I, walkO, lcE, lcK, wipeR, noX, forS, forK, methV, tyOk, par2S, tupG, gsK, subG, isiV, lenV, intV, strV, Rx.absV, maxV, minV, allV, sumV, sortedV, tupleV, listV, divmodV, tyD, truV, binV, negV, cmpV, cmpI, addV, subV, powV, modV, divV, mulV, slV, ixV, isV, isNonD] at hl; omega
    simp only [List.map_cons, lcK, tupG, gsK, nameG, yesT, M.bind, M.pure, noX, h0, hz, if_true, cond, List.length_cons, List.length_nil, beq_self_eq_true]
    rw [ih]
    simp [runS, startR, seqS, ifS, retS, retN, passS, dropS, asgS, nameG, vE, kE, getS, argsE, callF, callKF, callV, lstE, tupE, mkT, mkL, M.bind, M.pure, M.bad, rd, ofO, andsE, orsE, andsT, orsT, andE, orE, notE, andT, orT, notT, truT, ifE, binE, negE, cmpE, cmpT, chainE, chainT, ixE, slE, partO, intO, itemsO, yesT, anyI, enumI, zipI, rng1I, rng2I, walkO, lcE, lcK, wipeR, noX, forS, forK, methV, tyOk, par2S, tupG, gsK, subG, isiV, lenV, intV, strV, Rx.absV, maxV, minV, allV, sumV, sortedV, tupleV, listV, divmodV, tyD, truV, binV, negV, cmpV, cmpI, addV, subV, powV, modV, divV, mulV, slV, ixV, isV, isNonD, List.replicate_succ]
def small : Nat → D → Bool
  | n + 1, .tup ds => decide (ds.length ≤ 1000) && ds.all (small n)
  | n + 1, .lst ds => decide (ds.length ≤ 1000) && ds.all (small n)
  | 0, .tup _ => false
  | 0, .lst _ => false
  | _, _ => true
theorem okDs_all : ∀ (n : Nat) (ds : List D), okDs n ds = true → ∀ d ∈ ds, okD n d = true
  | n, [], _, d, hd => by cases hd
  | n, e :: ds, h, d, hd => by
    unfold okDs at h
    simp only [Bool.and_eq_true] at h
    rcases List.mem_cons.mp hd with rfl | hd
    · exact h.1
    · exact okDs_all n ds h.2 d hd
theorem same_ok : ∀ (n : Nat) (d : D) (τ : Sto), n ≤ 60 → okD n d = true → small n d = true → m__law_same (n + 1) [d, d] τ = .ok (.bl true) τ
  | n, .non, τ, hn, h, _ => by
    have e : eqO (.bl false) (.bl false) = some true := by rfl
    simp [runS, startR, seqS, ifS, retS, retN, passS, dropS, asgS, nameG, vE, kE, getS, argsE, callF, callKF, callV, lstE, tupE, mkT, mkL, M.bind, M.pure, M.bad, rd, ofO, andsE, orsE, andsT, orsT, andE, orE, notE, andT, orT, notT, truT, ifE, binE, negE, cmpE, cmpT, chainE, chainT, ixE, slE, partO, intO, itemsO, yesT, anyI, enumI, zipI, rng1I, rng2I, walkO, lcE, lcK, wipeR, noX, forS, forK, methV, tyOk, par2S, tupG, gsK, subG, isiV, lenV, intV, strV, Rx.absV, maxV, minV, allV, sumV, sortedV, tupleV, listV, divmodV, tyD, truV, binV, negV, cmpV, cmpI, addV, subV, powV, modV, divV, mulV, slV, ixV, isV, isNonD, m__law_same, cmpV, e]
  | n, .int i, τ, hn, h, _ => by
    have e : eqO (.int i) (.int i) = some true := eqO_yes (n := 0) (by decide) rfl
    have e2 : eqO (.bl false) (.bl false) = some true := by rfl
    simp [runS, startR, seqS, ifS, retS, retN, passS, dropS, asgS, nameG, vE, kE, getS, argsE, callF, callKF, callV, lstE, tupE, mkT, mkL, M.bind, M.pure, M.bad, rd, ofO, andsE, orsE, andsT, orsT, andE, orE, notE, andT, orT, notT, truT, ifE, binE, negE, cmpE, cmpT, chainE, chainT, ixE, slE, partO, intO, itemsO, yesT, anyI, enumI, zipI, rng1I, rng2I, walkO, lcE, lcK, wipeR, noX, forS, forK, methV, tyOk, par2S, tupG, gsK, subG, isiV, lenV, intV, strV, Rx.absV, maxV, minV, allV, sumV, sortedV, tupleV, listV, divmodV, tyD, truV, binV, negV, cmpV, cmpI, addV, subV, powV, modV, divV, mulV, slV, ixV, isV, isNonD, m__law_same, cmpV, e, e2]
  | n, .str s, τ, hn, h, _ => by
    have e : eqO (.str s) (.str s) = some true := eqO_yes (n := n) (by omega) h
    simp [runS, startR, seqS, ifS, retS, retN, passS, dropS, asgS, nameG, vE, kE, getS, argsE, callF, callKF, callV, lstE, tupE, mkT, mkL, M.bind, M.pure, M.bad, rd, ofO, andsE, orsE, andsT, orsT, andE, orE, notE, andT, orT, notT, truT, ifE, binE, negE, cmpE, cmpT, chainE, chainT, ixE, slE, partO, intO, itemsO, yesT, anyI, enumI, zipI, rng1I, rng2I, walkO, lcE, lcK, wipeR, noX, forS, forK, methV, tyOk, par2S, tupG, gsK, subG, isiV, lenV, intV, strV, Rx.absV, maxV, minV, allV, sumV, sortedV, tupleV, listV, divmodV, tyD, truV, binV, negV, cmpV, cmpI, addV, subV, powV, modV, divV, mulV, slV, ixV, isV, isNonD, m__law_same, cmpV, e]
  | n + 1, .tup ds, τ, hn, h, hs => by
    simp only [small, Bool.and_eq_true, decide_eq_true_eq, List.all_eq_true] at hs
    have hk := okDs_all n ds (by unfold okD at h; exact h)
    have el : ∀ d ∈ ds, (callF (m__law_same (n + 1)) [.one (vE 2), .one (vE 3)]) (([some (.tup ds), some (.tup ds), none, none].set 2 (some d)).set 3 (some d)) τ = .ok (.bl true) τ := by
      intro d hd
      have := same_ok n d τ (by omega) (hk d hd) (hs.2 d hd)
      simp [runS, startR, seqS, ifS, retS, retN, passS, dropS, asgS, nameG, vE, kE, getS, argsE, callF, callKF, callV, lstE, tupE, mkT, mkL, M.bind, M.pure, M.bad, rd, ofO, andsE, orsE, andsT, orsT, andE, orE, notE, andT, orT, notT, truT, ifE, binE, negE, cmpE, cmpT, chainE, chainT, ixE, slE, partO, intO, itemsO, yesT, anyI, enumI, zipI, rng1I, rng2I, walkO, lcE, lcK, wipeR, noX, forS, forK, methV, tyOk, par2S, tupG, gsK, subG, isiV, lenV, intV, strV, Rx.absV, maxV, minV, allV, sumV, sortedV, tupleV, listV, divmodV, tyD, truV, binV, negV, cmpV, cmpI, addV, subV, powV, modV, divV, mulV, slV, ixV, isV, isNonD, this]
    have lc := lc_pair (i := 2) (j := 3) (ρ := [some (.tup ds), some (.tup ds), none, none]) ds [] (by simp [runS, startR, seqS, ifS, retS, retN, passS, dropS, asgS, nameG, vE, kE, getS, argsE, callF, callKF, callV, lstE, tupE, mkT, mkL, M.bind, M.pure, M.bad, rd, ofO, andsE, orsE, andsT, orsT, andE, orE, notE, andT, orT, notT, truT, ifE, binE, negE, cmpE, cmpT, chainE, chainT, ixE, slE, partO, intO, itemsO, yesT, anyI, enumI, zipI, rng1I, rng2I, walkO, lcE, lcK, wipeR, noX, forS, forK, methV, tyOk, par2S, tupG, gsK, subG, isiV, lenV, intV, strV, Rx.absV, maxV, minV, allV, sumV, sortedV, tupleV, listV, divmodV, tyD, truV, binV, negV, cmpV, cmpI, addV, subV, powV, modV, divV, mulV, slV, ixV, isV, isNonD]; rw [sizeLine_eq]; omega) el
    have e : ∀ b, eqO (.bl b) (.bl b) = some true := by intro b; cases b <;> rfl
    have e2 : eqO (.int (ds.length : Nat)) (.int (ds.length : Nat)) = some true := eqO_yes (n := 0) (by decide) rfl
    have e3 : blsO (List.replicate ds.length (D.bl true)) = some (List.replicate ds.length true) := by
      have := blsO_map (List.replicate ds.length true)
      rw [List.map_replicate] at this
      exact this
    simp [runS, startR, seqS, ifS, retS, retN, passS, dropS, asgS, nameG, vE, kE, getS, argsE, callF, callKF, callV, lstE, tupE, mkT, mkL, M.bind, M.pure, M.bad, rd, ofO, andsE, orsE, andsT, orsT, andE, orE, notE, andT, orT, notT, truT, ifE, binE, negE, cmpE, cmpT, chainE, chainT, ixE, slE, partO, intO, itemsO, yesT, anyI, enumI, zipI, rng1I, rng2I, walkO, lcE, lcK, wipeR, noX, forS, forK, methV, tyOk, par2S, tupG, gsK, subG, isiV, lenV, intV, strV, Rx.absV, maxV, minV, allV, sumV, sortedV, tupleV, listV, divmodV, tyD, truV, binV, negV, cmpV, cmpI, addV, subV, powV, modV, divV, mulV, slV, ixV, isV, isNonD] at lc
    rw [m__law_same.eq_2]
    generalize m__law_same (n + 1) = g at lc ⊢
    simp [runS, startR, seqS, ifS, retS, retN, passS, dropS, asgS, nameG, vE, kE, getS, argsE, callF, callKF, callV, lstE, tupE, mkT, mkL, M.bind, M.pure, M.bad, rd, ofO, andsE, orsE, andsT, orsT, andE, orE, notE, andT, orT, notT, truT, ifE, binE, negE, cmpE, cmpT, chainE, chainT, ixE, slE, partO, intO, itemsO, yesT, anyI, enumI, zipI, rng1I, rng2I, walkO, lcE, lcK, wipeR, noX, forS, forK, methV, tyOk, par2S, tupG, gsK, subG, isiV, lenV, intV, strV, Rx.absV, maxV, minV, allV, sumV, sortedV, tupleV, listV, divmodV, tyD, truV, binV, negV, cmpV, cmpI, addV, subV, powV, modV, divV, mulV, slV, ixV, isV, isNonD, cmpV, e, e2, zipO, zip_same, lc, e3]
  | n + 1, .lst ds, τ, hn, h, hs => by
    simp only [small, Bool.and_eq_true, decide_eq_true_eq, List.all_eq_true] at hs
    have hk := okDs_all n ds (by unfold okD at h; exact h)
    have el : ∀ d ∈ ds, (callF (m__law_same (n + 1)) [.one (vE 2), .one (vE 3)]) (([some (.lst ds), some (.lst ds), none, none].set 2 (some d)).set 3 (some d)) τ = .ok (.bl true) τ := by
      intro d hd
      have := same_ok n d τ (by omega) (hk d hd) (hs.2 d hd)
      simp [runS, startR, seqS, ifS, retS, retN, passS, dropS, asgS, nameG, vE, kE, getS, argsE, callF, callKF, callV, lstE, tupE, mkT, mkL, M.bind, M.pure, M.bad, rd, ofO, andsE, orsE, andsT, orsT, andE, orE, notE, andT, orT, notT, truT, ifE, binE, negE, cmpE, cmpT, chainE, chainT, ixE, slE, partO, intO, itemsO, yesT, anyI, enumI, zipI, rng1I, rng2I, walkO, lcE, lcK, wipeR, noX, forS, forK, methV, tyOk, par2S, tupG, gsK, subG, isiV, lenV, intV, strV, Rx.absV, maxV, minV, allV, sumV, sortedV, tupleV, listV, divmodV, tyD, truV, binV, negV, cmpV, cmpI, addV, subV, powV, modV, divV, mulV, slV, ixV, isV, isNonD, this]
    have lc := lc_pair (i := 2) (j := 3) (ρ := [some (.lst ds), some (.lst ds), none, none]) ds [] (by simp [runS, startR, seqS, ifS, retS, retN, passS, dropS, asgS, nameG, vE, kE, getS, argsE, callF, callKF, callV, lstE, tupE, mkT, mkL, M.bind, M.pure, M.bad, rd, ofO, andsE, orsE, andsT, orsT, andE, orE, notE, andT, orT, notT, truT, ifE, binE, negE, cmpE, cmpT, chainE, chainT, ixE, slE, partO, intO, itemsO, yesT, anyI, enumI, zipI, rng1I, rng2I, walkO, lcE, lcK, wipeR, noX, forS, forK, methV, tyOk, par2S, tupG, gsK, subG, isiV, lenV, intV, strV, Rx.absV, maxV, minV, allV, sumV, sortedV, tupleV, listV, divmodV, tyD, truV, binV, negV, cmpV, cmpI, addV, subV, powV, modV, divV, mulV, slV, ixV, isV, isNonD]; rw [sizeLine_eq]; omega) el
    have e : ∀ b, eqO (.bl b) (.bl b) = some true := by intro b; cases b <;> rfl
    have e2 : eqO (.int (ds.length : Nat)) (.int (ds.length : Nat)) = some true := eqO_yes (n := 0) (by decide) rfl
    have e3 : blsO (List.replicate ds.length (D.bl true)) = some (List.replicate ds.length true) := by
      have := blsO_map (List.replicate ds.length true)
      rw [List.map_replicate] at this
      exact this
    simp [runS, startR, seqS, ifS, retS, retN, passS, dropS, asgS, nameG, vE, kE, getS, argsE, callF, callKF, callV, lstE, tupE, mkT, mkL, M.bind, M.pure, M.bad, rd, ofO, andsE, orsE, andsT, orsT, andE, orE, notE, andT, orT, notT, truT, ifE, binE, negE, cmpE, cmpT, chainE, chainT, ixE, slE, partO, intO, itemsO, yesT, anyI, enumI, zipI, rng1I, rng2I, walkO, lcE, lcK, wipeR, noX, forS, forK, methV, tyOk, par2S, tupG, gsK, subG, isiV, lenV, intV, strV, Rx.absV, maxV, minV, allV, sumV, sortedV, tupleV, listV, divmodV, tyD, truV, binV, negV, cmpV, cmpI, addV, subV, powV, modV, divV, mulV, slV, ixV, isV, isNonD] at lc
    rw [m__law_same.eq_2]
    generalize m__law_same (n + 1) = g at lc ⊢
    simp [runS, startR, seqS, ifS, retS, retN, passS, dropS, asgS, nameG, vE, kE, getS, argsE, callF, callKF, callV, lstE, tupE, mkT, mkL, M.bind, M.pure, M.bad, rd, ofO, andsE, orsE, andsT, orsT, andE, orE, notE, andT, orT, notT, truT, ifE, binE, negE, cmpE, cmpT, chainE, chainT, ixE, slE, partO, intO, itemsO, yesT, anyI, enumI, zipI, rng1I, rng2I, walkO, lcE, lcK, wipeR, noX, forS, forK, methV, tyOk, par2S, tupG, gsK, subG, isiV, lenV, intV, strV, Rx.absV, maxV, minV, allV, sumV, sortedV, tupleV, listV, divmodV, tyD, truV, binV, negV, cmpV, cmpI, addV, subV, powV, modV, divV, mulV, slV, ixV, isV, isNonD, cmpV, e, e2, zipO, zip_same, lc, e3]
  | 0, .tup ds, _, _, h, _ => by simp [runS, startR, seqS, ifS, retS, retN, passS, dropS, asgS, nameG, vE, kE, getS, argsE, callF, callKF, callV, lstE, tupE, mkT, mkL, M.bind, M.pure, M.bad, rd, ofO, andsE, orsE, andsT, orsT, andE, orE, notE, andT, orT, notT, truT, ifE, binE, negE, cmpE, cmpT, chainE, chainT, ixE, slE, partO, intO, itemsO, yesT, anyI, enumI, zipI, rng1I, rng2I, walkO, lcE, lcK, wipeR, noX, forS, forK, methV, tyOk, par2S, tupG, gsK, subG, isiV, lenV, intV, strV, Rx.absV, maxV, minV, allV, sumV, sortedV, tupleV, listV, divmodV, tyD, truV, binV, negV, cmpV, cmpI, addV, subV, powV, modV, divV, mulV, slV, ixV, isV, isNonD, okD] at h
  | 0, .lst ds, _, _, h, _ => by simp [runS, startR, seqS, ifS, retS, retN, passS, dropS, asgS, nameG, vE, kE, getS, argsE, callF, callKF, callV, lstE, tupE, mkT, mkL, M.bind, M.pure, M.bad, rd, ofO, andsE, orsE, andsT, orsT, andE, orE, notE, andT, orT, notT, truT, ifE, binE, negE, cmpE, cmpT, chainE, chainT, ixE, slE, partO, intO, itemsO, yesT, anyI, enumI, zipI, rng1I, rng2I, walkO, lcE, lcK, wipeR, noX, forS, forK, methV, tyOk, par2S, tupG, gsK, subG, isiV, lenV, intV, strV, Rx.absV, maxV, minV, allV, sumV, sortedV, tupleV, listV, divmodV, tyD, truV, binV, negV, cmpV, cmpI, addV, subV, powV, modV, divV, mulV, slV, ixV, isV, isNonD, okD] at h
  | n, .bl b, _, _, h, _ => by cases n <;> simp [runS, startR, seqS, ifS, retS, retN, passS, dropS, asgS, nameG, vE, kE, getS, argsE, callF, callKF, callV, lstE, tupE, mkT, mkL, M.bind, M.pure, M.bad, rd, ofO, andsE, orsE, andsT, orsT, andE, orE, notE, andT, orT, notT, truT, ifE, binE, negE, cmpE, cmpT, chainE, chainT, ixE, slE, partO, intO, itemsO, yesT, anyI, enumI, zipI, rng1I, rng2I, walkO, lcE, lcK, wipeR, noX, forS, forK, methV, tyOk, par2S, tupG, gsK, subG, isiV, lenV, intV, strV, Rx.absV, maxV, minV, allV, sumV, sortedV, tupleV, listV, divmodV, tyD, truV, binV, negV, cmpV, cmpI, addV, subV, powV, modV, divV, mulV, slV, ixV, isV, isNonD, okD] at h
  | n, .loc b, _, _, h, _ => by cases n <;> simp [runS, startR, seqS, ifS, retS, retN, passS, dropS, asgS, nameG, vE, kE, getS, argsE, callF, callKF, callV, lstE, tupE, mkT, mkL, M.bind, M.pure, M.bad, rd, ofO, andsE, orsE, andsT, orsT, andE, orE, notE, andT, orT, notT, truT, ifE, binE, negE, cmpE, cmpT, chainE, chainT, ixE, slE, partO, intO, itemsO, yesT, anyI, enumI, zipI, rng1I, rng2I, walkO, lcE, lcK, wipeR, noX, forS, forK, methV, tyOk, par2S, tupG, gsK, subG, isiV, lenV, intV, strV, Rx.absV, maxV, minV, allV, sumV, sortedV, tupleV, listV, divmodV, tyD, truV, binV, negV, cmpV, cmpI, addV, subV, powV, modV, divV, mulV, slV, ixV, isV, isNonD, okD] at h
  | n, .glo b, _, _, h, _ => by cases n <;> simp [runS, startR, seqS, ifS, retS, retN, passS, dropS, asgS, nameG, vE, kE, getS, argsE, callF, callKF, callV, lstE, tupE, mkT, mkL, M.bind, M.pure, M.bad, rd, ofO, andsE, orsE, andsT, orsT, andE, orE, notE, andT, orT, notT, truT, ifE, binE, negE, cmpE, cmpT, chainE, chainT, ixE, slE, partO, intO, itemsO, yesT, anyI, enumI, zipI, rng1I, rng2I, walkO, lcE, lcK, wipeR, noX, forS, forK, methV, tyOk, par2S, tupG, gsK, subG, isiV, lenV, intV, strV, Rx.absV, maxV, minV, allV, sumV, sortedV, tupleV, listV, divmodV, tyD, truV, binV, negV, cmpV, cmpI, addV, subV, powV, modV, divV, mulV, slV, ixV, isV, isNonD, okD] at h
  | n, .ty b, _, _, h, _ => by cases n <;> simp [runS, startR, seqS, ifS, retS, retN, passS, dropS, asgS, nameG, vE, kE, getS, argsE, callF, callKF, callV, lstE, tupE, mkT, mkL, M.bind, M.pure, M.bad, rd, ofO, andsE, orsE, andsT, orsT, andE, orE, notE, andT, orT, notT, truT, ifE, binE, negE, cmpE, cmpT, chainE, chainT, ixE, slE, partO, intO, itemsO, yesT, anyI, enumI, zipI, rng1I, rng2I, walkO, lcE, lcK, wipeR, noX, forS, forK, methV, tyOk, par2S, tupG, gsK, subG, isiV, lenV, intV, strV, Rx.absV, maxV, minV, allV, sumV, sortedV, tupleV, listV, divmodV, tyD, truV, binV, negV, cmpV, cmpI, addV, subV, powV, modV, divV, mulV, slV, ixV, isV, isNonD, okD] at h
  | n, .clo b c, _, _, h, _ => by cases n <;> simp [runS, startR, seqS, ifS, retS, retN, passS, dropS, asgS, nameG, vE, kE, getS, argsE, callF, callKF, callV, lstE, tupE, mkT, mkL, M.bind, M.pure, M.bad, rd, ofO, andsE, orsE, andsT, orsT, andE, orE, notE, andT, orT, notT, truT, ifE, binE, negE, cmpE, cmpT, chainE, chainT, ixE, slE, partO, intO, itemsO, yesT, anyI, enumI, zipI, rng1I, rng2I, walkO, lcE, lcK, wipeR, noX, forS, forK, methV, tyOk, par2S, tupG, gsK, subG, isiV, lenV, intV, strV, Rx.absV, maxV, minV, allV, sumV, sortedV, tupleV, listV, divmodV, tyD, truV, binV, negV, cmpV, cmpI, addV, subV, powV, modV, divV, mulV, slV, ixV, isV, isNonD, okD] at h
  | n, .scr b, _, _, h, _ => by cases n <;> simp [runS, startR, seqS, ifS, retS, retN, passS, dropS, asgS, nameG, vE, kE, getS, argsE, callF, callKF, callV, lstE, tupE, mkT, mkL, M.bind, M.pure, M.bad, rd, ofO, andsE, orsE, andsT, orsT, andE, orE, notE, andT, orT, notT, truT, ifE, binE, negE, cmpE, cmpT, chainE, chainT, ixE, slE, partO, intO, itemsO, yesT, anyI, enumI, zipI, rng1I, rng2I, walkO, lcE, lcK, wipeR, noX, forS, forK, methV, tyOk, par2S, tupG, gsK, subG, isiV, lenV, intV, strV, Rx.absV, maxV, minV, allV, sumV, sortedV, tupleV, listV, divmodV, tyD, truV, binV, negV, cmpV, cmpI, addV, subV, powV, modV, divV, mulV, slV, ixV, isV, isNonD, okD] at h
/-! ### draws -/
/-- the tub stands at n: at most k were drawn -/
structure Tub (τ : Sto) (n k : Nat) : Prop where
  ex : ∃ a b c : Int, τ[n]? = some (.lst [.int a, .int b, .int c]) ∧ 0 ≤ a ∧ 0 ≤ b ∧ b < 2147482873 ∧ 0 ≤ c ∧ c ≤ k
theorem log_small {i : Int} {k : Nat} (h : i.natAbs < 2 ^ k) (hk : 0 < k) : i.natAbs.log2 < k := by
  by_cases h0 : i.natAbs = 0
  · rw [h0]; simpa [runS, startR, seqS, ifS, retS, retN, passS, dropS, asgS, nameG, vE, kE, getS, argsE, callF, callKF, callV, lstE, tupE, mkT, mkL, M.bind, M.pure, M.bad, rd, ofO, andsE, orsE, andsT, orsT, andE, orE, notE, andT, orT, notT, truT, ifE, binE, negE, cmpE, cmpT, chainE, chainT, ixE, slE, partO, intO, itemsO, yesT, anyI, enumI, zipI, rng1I, rng2I, walkO, lcE, lcK, wipeR, noX, forS, forK, methV, tyOk, par2S, tupG, gsK, subG, isiV, lenV, intV, strV, Rx.absV, maxV, minV, allV, sumV, sortedV, tupleV, listV, divmodV, tyD, truV, binV, negV, cmpV, cmpI, addV, subV, powV, modV, divV, mulV, slV, ixV, isV, isNonD] using hk
  · exact (Nat.log2_lt h0).mpr h
theorem mul_small {i j : Int} (h : i.natAbs < 2 ^ 1000) (h' : j.natAbs < 2 ^ 1000) : mulOkB i j = true := by
  have h1 := log_small h (by decide)
  have h2 := log_small h' (by decide)
  unfold mulOkB
  exact decide_eq_true (by omega)
theorem big1000 {x : Nat} (h : x < 10 ^ 20) : x < 2 ^ 1000 := Nat.lt_of_lt_of_le h (by decide)
theorem cup_ok {τ : Sto} {n k : Nat} (T : Tub τ n k) (hk : k ≤ 1000000) {many : Int} (h1 : 0 < many) (h2 : many ≤ 1000000) : ∃ (v : Int) (τ' : Sto), m__law_cup [.loc n, .int many] τ = .ok (.int v) τ' ∧ Tub τ' n (k + 1) ∧ 0 ≤ v ∧ v < many := by
  obtain ⟨a, b, c, ht, ha, hb, hb2, hc, hc2⟩ := T.ex
  have hlt : n < τ.length := (List.getElem?_eq_some_iff.mp ht).1
  by_cases h0 : 0 < a
  · refine ⟨a % many, τ.set n (.lst [.int (a / many), .int b, .int c]), ?_, ⟨a / many, b, c, ?_, ?_, hb, hb2, hc, by omega⟩, Int.emod_nonneg _ (by omega), Int.emod_lt_of_pos _ h1⟩
    · have hm : many < 1073741824 := by omega
      simp [runS, startR, seqS, ifS, retS, retN, passS, dropS, asgS, nameG, vE, kE, getS, argsE, callF, callKF, callV, lstE, tupE, mkT, mkL, M.bind, M.pure, M.bad, rd, ofO, andsE, orsE, andsT, orsT, andE, orE, notE, andT, orT, notT, truT, ifE, binE, negE, cmpE, cmpT, chainE, chainT, ixE, slE, partO, intO, itemsO, yesT, anyI, enumI, zipI, rng1I, rng2I, walkO, lcE, lcK, wipeR, noX, forS, forK, methV, tyOk, par2S, tupG, gsK, subG, isiV, lenV, intV, strV, Rx.absV, maxV, minV, allV, sumV, sortedV, tupleV, listV, divmodV, tyD, truV, binV, negV, cmpV, cmpI, addV, subV, powV, modV, divV, mulV, slV, ixV, isV, isNonD, m__law_cup, ht, h0, atI, ixN, h1, hm, setM]
    · rw [List.getElem?_set_self hlt]
    · exact Int.ediv_nonneg ha (by omega)
  · have f1 : b.fmod 9859 = b % 9859 := Int.fmod_eq_emod_of_nonneg _ (by decide)
    have r1 := Int.emod_nonneg b (show (9859 : Int) ≠ 0 by decide)
    have r2 := Int.emod_lt_of_pos b (show (0 : Int) < 9859 by decide)
    have m1 : mulOkB b (b % 9859 + 39019) = true := mul_small (big1000 (by omega)) (big1000 (by omega))
    have m2 : mulOkB 10151 (c + 1) = true := mul_small (big1000 (by omega)) (big1000 (by omega))
    obtain ⟨w, hw⟩ : ∃ w, w = (b * (b % 9859 + 39019) + 10151 * (c + 1) + 163).fmod 2147482873 := ⟨_, rfl⟩
    have fw : w = (b * (b % 9859 + 39019) + 10151 * (c + 1) + 163) % 2147482873 := by rw [hw]; exact Int.fmod_eq_emod_of_nonneg _ (by decide)
    have w0 : 0 ≤ w := by rw [fw]; exact Int.emod_nonneg _ (by decide)
    have w1 : w < 2147482873 := by rw [fw]; exact Int.emod_lt_of_pos _ (by decide)
    have fv : (w.fdiv 467).fmod many = (w.fdiv 467) % many := Int.fmod_eq_emod_of_nonneg _ (by omega)
    have hm : many ≠ 0 := by omega
    refine ⟨(w.fdiv 467) % many, τ.set n (.lst [.int a, .int w, .int (c + 1)]), ?_, ⟨a, w, c + 1, ?_, ha, w0, w1, by omega, by omega⟩, Int.emod_nonneg _ hm, Int.emod_lt_of_pos _ h1⟩
    · have hset : ∀ so : SO, (τ.set n so)[n]? = some so := fun so => List.getElem?_set_self hlt
      simp [runS, startR, seqS, ifS, retS, retN, passS, dropS, asgS, nameG, vE, kE, getS, argsE, callF, callKF, callV, lstE, tupE, mkT, mkL, M.bind, M.pure, M.bad, rd, ofO, andsE, orsE, andsT, orsT, andE, orE, notE, andT, orT, notT, truT, ifE, binE, negE, cmpE, cmpT, chainE, chainT, ixE, slE, partO, intO, itemsO, yesT, anyI, enumI, zipI, rng1I, rng2I, walkO, lcE, lcK, wipeR, noX, forS, forK, methV, tyOk, par2S, tupG, gsK, subG, isiV, lenV, intV, strV, Rx.absV, maxV, minV, allV, sumV, sortedV, tupleV, listV, divmodV, tyD, truV, binV, negV, cmpV, cmpI, addV, subV, powV, modV, divV, mulV, slV, ixV, isV, isNonD, -List.getElem?_set, -List.getElem?_set_self, m__law_cup, ht, h0, atI, ixN, setM, hset, f1, m1, m2, ← hw, fv, hm]
    · rw [List.getElem?_set_self hlt]
theorem of_ok {τ : Sto} {n k : Nat} (T : Tub τ n k) (hk : k ≤ 1000000) {ds : List D} (h1 : 0 < ds.length) (h2 : ds.length ≤ 1000) : ∃ (d : D) (τ' : Sto), m__law_of [.loc n, .lst ds] τ = .ok d τ' ∧ Tub τ' n (k + 1) ∧ d ∈ ds := by
  obtain ⟨v, τ', e, T', v0, v1⟩ := cup_ok T hk (many := (ds.length : Nat)) (by omega) (by omega)
  obtain ⟨j, rfl⟩ := Int.eq_ofNat_of_zero_le v0
  have hj : j < ds.length := by omega
  have ha : atI ds (j : Int) = some ds[j] := by
    unfold atI ixN
    rw [if_pos (by omega), if_pos (by omega)]
    exact List.getElem?_eq_getElem hj
  refine ⟨ds[j], τ', ?_, T', List.getElem_mem hj⟩
  simp [runS, startR, seqS, ifS, retS, retN, passS, dropS, asgS, nameG, vE, kE, getS, argsE, callF, callKF, callV, lstE, tupE, mkT, mkL, M.bind, M.pure, M.bad, rd, ofO, andsE, orsE, andsT, orsT, andE, orE, notE, andT, orT, notT, truT, ifE, binE, negE, cmpE, cmpT, chainE, chainT, ixE, slE, partO, intO, itemsO, yesT, anyI, enumI, zipI, rng1I, rng2I, walkO, lcE, lcK, wipeR, noX, forS, forK, methV, tyOk, par2S, tupG, gsK, subG, isiV, lenV, intV, strV, Rx.absV, maxV, minV, allV, sumV, sortedV, tupleV, listV, divmodV, tyD, truV, binV, negV, cmpV, cmpI, addV, subV, powV, modV, divV, mulV, slV, ixV, isV, isNonD, m__law_of, e, ha]
theorem value_ok {τ : Sto} {n k : Nat} (T : Tub τ n k) (hk : k + 6 ≤ 1000000) : ∃ (v : Int) (τ' : Sto), m__law_value [.loc n] τ = .ok (.int v) τ' ∧ Tub τ' n (k + 6) ∧ -999 ≤ v ∧ v ≤ 999 := by
  obtain ⟨v1, τ1, e1, T1, a1, b1⟩ := cup_ok T (by omega) (many := 5) (by decide) (by decide)
  obtain ⟨v2, τ2, e2, T2, a2, b2⟩ := cup_ok T1 (by omega) (many := 5) (by decide) (by decide)
  obtain ⟨v3, τ3, e3, T3, a3, b3⟩ := cup_ok T2 (by omega) (many := 20) (by decide) (by decide)
  obtain ⟨v4, τ4, e4, T4, a4, b4⟩ := cup_ok T3 (by omega) (many := 1999) (by decide) (by decide)
  obtain ⟨d5, τ5, e5, T5, m5⟩ := of_ok T4 (by omega) (ds := [.int (-999), .int 999, .int 0, .int (v4 - 999)]) (by simp [runS, startR, seqS, ifS, retS, retN, passS, dropS, asgS, nameG, vE, kE, getS, argsE, callF, callKF, callV, lstE, tupE, mkT, mkL, M.bind, M.pure, M.bad, rd, ofO, andsE, orsE, andsT, orsT, andE, orE, notE, andT, orT, notT, truT, ifE, binE, negE, cmpE, cmpT, chainE, chainT, ixE, slE, partO, intO, itemsO, yesT, anyI, enumI, zipI, rng1I, rng2I, walkO, lcE, lcK, wipeR, noX, forS, forK, methV, tyOk, par2S, tupG, gsK, subG, isiV, lenV, intV, strV, Rx.absV, maxV, minV, allV, sumV, sortedV, tupleV, listV, divmodV, tyD, truV, binV, negV, cmpV, cmpI, addV, subV, powV, modV, divV, mulV, slV, ixV, isV, isNonD]) (by simp [runS, startR, seqS, ifS, retS, retN, passS, dropS, asgS, nameG, vE, kE, getS, argsE, callF, callKF, callV, lstE, tupE, mkT, mkL, M.bind, M.pure, M.bad, rd, ofO, andsE, orsE, andsT, orsT, andE, orE, notE, andT, orT, notT, truT, ifE, binE, negE, cmpE, cmpT, chainE, chainT, ixE, slE, partO, intO, itemsO, yesT, anyI, enumI, zipI, rng1I, rng2I, walkO, lcE, lcK, wipeR, noX, forS, forK, methV, tyOk, par2S, tupG, gsK, subG, isiV, lenV, intV, strV, Rx.absV, maxV, minV, allV, sumV, sortedV, tupleV, listV, divmodV, tyD, truV, binV, negV, cmpV, cmpI, addV, subV, powV, modV, divV, mulV, slV, ixV, isV, isNonD])
  have hd5 : ∃ v5, d5 = .int v5 ∧ -999 ≤ v5 ∧ v5 ≤ 999 := by
    simp only [List.mem_cons, List.not_mem_nil, or_false] at m5
    rcases m5 with rfl | rfl | rfl | rfl
    · exact ⟨_, rfl, by omega, by omega⟩
    · exact ⟨_, rfl, by omega, by omega⟩
    · exact ⟨_, rfl, by omega, by omega⟩
    · exact ⟨_, rfl, by omega, by omega⟩
  obtain ⟨v5, rfl, a5, b5⟩ := hd5
  obtain ⟨d6, τ6, e6, T6, m6⟩ := of_ok T5 (by omega) (ds := [.int v1, .int v2, .int (v3 - 9), .int v5]) (by simp [runS, startR, seqS, ifS, retS, retN, passS, dropS, asgS, nameG, vE, kE, getS, argsE, callF, callKF, callV, lstE, tupE, mkT, mkL, M.bind, M.pure, M.bad, rd, ofO, andsE, orsE, andsT, orsT, andE, orE, notE, andT, orT, notT, truT, ifE, binE, negE, cmpE, cmpT, chainE, chainT, ixE, slE, partO, intO, itemsO, yesT, anyI, enumI, zipI, rng1I, rng2I, walkO, lcE, lcK, wipeR, noX, forS, forK, methV, tyOk, par2S, tupG, gsK, subG, isiV, lenV, intV, strV, Rx.absV, maxV, minV, allV, sumV, sortedV, tupleV, listV, divmodV, tyD, truV, binV, negV, cmpV, cmpI, addV, subV, powV, modV, divV, mulV, slV, ixV, isV, isNonD]) (by simp [runS, startR, seqS, ifS, retS, retN, passS, dropS, asgS, nameG, vE, kE, getS, argsE, callF, callKF, callV, lstE, tupE, mkT, mkL, M.bind, M.pure, M.bad, rd, ofO, andsE, orsE, andsT, orsT, andE, orE, notE, andT, orT, notT, truT, ifE, binE, negE, cmpE, cmpT, chainE, chainT, ixE, slE, partO, intO, itemsO, yesT, anyI, enumI, zipI, rng1I, rng2I, walkO, lcE, lcK, wipeR, noX, forS, forK, methV, tyOk, par2S, tupG, gsK, subG, isiV, lenV, intV, strV, Rx.absV, maxV, minV, allV, sumV, sortedV, tupleV, listV, divmodV, tyD, truV, binV, negV, cmpV, cmpI, addV, subV, powV, modV, divV, mulV, slV, ixV, isV, isNonD])
  have hd6 : ∃ v6, d6 = .int v6 ∧ -999 ≤ v6 ∧ v6 ≤ 999 := by
    simp only [List.mem_cons, List.not_mem_nil, or_false] at m6
    rcases m6 with rfl | rfl | rfl | rfl
    · exact ⟨_, rfl, by omega, by omega⟩
    · exact ⟨_, rfl, by omega, by omega⟩
    · exact ⟨_, rfl, by omega, by omega⟩
    · exact ⟨_, rfl, a5, b5⟩
  obtain ⟨v6, rfl, a6, b6⟩ := hd6
  have hz : 4 ≤ sizeLine := by rw [sizeLine_eq]; omega
  refine ⟨v6, τ6, ?_, T6, a6, b6⟩
  simp [runS, startR, seqS, ifS, retS, retN, passS, dropS, asgS, nameG, vE, kE, getS, argsE, callF, callKF, callV, lstE, tupE, mkT, mkL, M.bind, M.pure, M.bad, rd, ofO, andsE, orsE, andsT, orsT, andE, orE, notE, andT, orT, notT, truT, ifE, binE, negE, cmpE, cmpT, chainE, chainT, ixE, slE, partO, intO, itemsO, yesT, anyI, enumI, zipI, rng1I, rng2I, walkO, lcE, lcK, wipeR, noX, forS, forK, methV, tyOk, par2S, tupG, gsK, subG, isiV, lenV, intV, strV, Rx.absV, maxV, minV, allV, sumV, sortedV, tupleV, listV, divmodV, tyD, truV, binV, negV, cmpV, cmpI, addV, subV, powV, modV, divV, mulV, slV, ixV, isV, isNonD, m__law_value, e1, e2, e3, e4, e5, e6, hz]
theorem lc_vals {n : Nat} {ρ : Rho} (hρ : ∀ d, (ρ.set 2 (some d))[0]? = some (some (.loc n))) : ∀ (ds : List D) (vs : List Int) (τ : Sto) (k : Nat), Tub τ n k → k + 6 * ds.length ≤ 1000000 → (∀ v ∈ vs, -999 ≤ v ∧ v ≤ 999) → vs.length + ds.length ≤ 100 →
    ∃ (ws : List Int) (τ' : Sto), lcK (nameG 2) yesT (callF m__law_value [.one (vE 0)]) ρ ds (vs.map .int) τ = .ok (.lst (ws.map .int)) τ' ∧ Tub τ' n (k + 6 * ds.length) ∧ (∀ v ∈ ws, -999 ≤ v ∧ v ≤ 999) ∧ ws.length = vs.length + ds.length
  | [], vs, τ, k, T, _, hv, _ => ⟨vs, τ, by simp [runS, startR, seqS, ifS, retS, retN, passS, dropS, asgS, nameG, vE, kE, getS, argsE, callF, callKF, callV, lstE, tupE, mkT, mkL, M.bind, M.pure, M.bad, rd, ofO, andsE, orsE, andsT, orsT, andE, orE, notE, andT, orT, notT, truT, ifE, binE, negE, cmpE, cmpT, chainE, chainT, ixE, slE, partO, intO, itemsO, yesT, anyI, enumI, zipI, rng1I, rng2I, walkO, lcE, lcK, wipeR, noX, forS, forK, methV, tyOk, par2S, tupG, gsK, subG, isiV, lenV, intV, strV, Rx.absV, maxV, minV, allV, sumV, sortedV, tupleV, listV, divmodV, tyD, truV, binV, negV, cmpV, cmpI, addV, subV, powV, modV, divV, mulV, slV, ixV, isV, isNonD], by simpa [runS, startR, seqS, ifS, retS, retN, passS, dropS, asgS, nameG, vE, kE, getS, argsE, callF, callKF, callV, lstE, tupE, mkT, mkL, M.bind, M.pure, M.bad, rd, ofO, andsE, orsE, andsT, orsT, andE, orE, notE, andT, orT, notT, truT, ifE, binE, negE, cmpE, cmpT, chainE, chainT, ixE, slE, partO, intO, itemsO, yesT, anyI, enumI, zipI, rng1I, rng2I, walkO, lcE, lcK, wipeR, noX, forS, forK, methV, tyOk, par2S, tupG, gsK, subG, isiV, lenV, intV, strV, Rx.absV, maxV, minV, allV, sumV, sortedV, tupleV, listV, divmodV, tyD, truV, binV, negV, cmpV, cmpI, addV, subV, powV, modV, divV, mulV, slV, ixV, isV, isNonD] using T, hv, by simp [runS, startR, seqS, ifS, retS, retN, passS, dropS, asgS, nameG, vE, kE, getS, argsE, callF, callKF, callV, lstE, tupE, mkT, mkL, M.bind, M.pure, M.bad, rd, ofO, andsE, orsE, andsT, orsT, andE, orE, notE, andT, orT, notT, truT, ifE, binE, negE, cmpE, cmpT, chainE, chainT, ixE, slE, partO, intO, itemsO, yesT, anyI, enumI, zipI, rng1I, rng2I, walkO, lcE, lcK, wipeR, noX, forS, forK, methV, tyOk, par2S, tupG, gsK, subG, isiV, lenV, intV, strV, Rx.absV, maxV, minV, allV, sumV, sortedV, tupleV, listV, divmodV, tyD, truV, binV, negV, cmpV, cmpI, addV, subV, powV, modV, divV, mulV, slV, ixV, isV, isNonD]⟩
  | d :: ds, vs, τ, k, T, hk, hv, hl => by
    simp only [List.length_cons] at hk hl
    obtain ⟨v, τ1, e1, T1, a, b⟩ := value_ok T (by omega)
    obtain ⟨ws, τ2, e2, T2, h2, l2⟩ := lc_vals hρ ds (vs ++ [v]) τ1 (k + 6) T1 (by omega) (by
      intro z hz
      rcases List.mem_append.mp hz with hz | hz
      · exact hv z hz
      · rw [List.mem_singleton.mp hz]; exact ⟨a, b⟩) (by simp [runS, startR, seqS, ifS, retS, retN, passS, dropS, asgS, nameG, vE, kE, getS, argsE, callF, callKF, callV, lstE, tupE, mkT, mkL, M.bind, M.pure, M.bad, rd, ofO, andsE, orsE, andsT, orsT, andE, orE, notE, andT, orT, notT, truT, ifE, binE, negE, cmpE, cmpT, chainE, chainT, ixE, slE, partO, intO, itemsO, yesT, anyI, enumI, zipI, rng1I, rng2I, walkO, lcE, lcK, wipeR, noX, forS, forK, methV, tyOk, par2S, tupG, gsK, subG, isiV, lenV, intV, strV, Rx.absV, maxV, minV, allV, sumV, sortedV, tupleV, listV, divmodV, tyD, truV, binV, negV, cmpV, cmpI, addV, subV, powV, modV, divV, mulV, slV, ixV, isV, isNonD]; omega)
    have hz : vs.length < sizeLine := by rw [sizeLine_eq]; omega
    refine ⟨ws, τ2, ?_, by rw [List.length_cons, show k + 6 * (ds.length + 1) = k + 6 + 6 * ds.length by omega]; exact T2, h2, by simp [runS, startR, seqS, ifS, retS, retN, passS, dropS, asgS, nameG, vE, kE, getS, argsE, callF, callKF, callV, lstE, tupE, mkT, mkL, M.bind, M.pure, M.bad, rd, ofO, andsE, orsE, andsT, orsT, andE, orE, notE, andT, orT, notT, truT, ifE, binE, negE, cmpE, cmpT, chainE, chainT, ixE, slE, partO, intO, itemsO, yesT, anyI, enumI, zipI, rng1I, rng2I, walkO, lcE, lcK, wipeR, noX, forS, forK, methV, tyOk, par2S, tupG, gsK, subG, isiV, lenV, intV, strV, Rx.absV, maxV, minV, allV, sumV, sortedV, tupleV, listV, divmodV, tyD, truV, binV, negV, cmpV, cmpI, addV, subV, powV, modV, divV, mulV, slV, ixV, isV, isNonD] at l2 ⊢; omega⟩
    have g0 : getS (ρ.set 2 (some d)) 0 = M.pure (.loc n) := by unfold getS; rw [hρ d]
    have g1 : callF m__law_value [.one (vE 0)] (ρ.set 2 (some d)) τ = .ok (.int v) τ1 := by
      show M.bind (M.bind (getS (ρ.set 2 (some d)) 0) _) _ τ = _
      rw [g0]
      simpa [runS, startR, seqS, ifS, retS, retN, passS, dropS, asgS, nameG, vE, kE, getS, argsE, callF, callKF, callV, lstE, tupE, mkT, mkL, M.bind, M.pure, M.bad, rd, ofO, andsE, orsE, andsT, orsT, andE, orE, notE, andT, orT, notT, truT, ifE, binE, negE, cmpE, cmpT, chainE, chainT, ixE, slE, partO, intO, itemsO, yesT, anyI, enumI, zipI, rng1I, rng2I, walkO, lcE, lcK, wipeR, noX, forS, forK, methV, tyOk, par2S, tupG, gsK, subG, isiV, lenV, intV, strV, Rx.absV, maxV, minV, allV, sumV, sortedV, tupleV, listV, divmodV, tyD, truV, binV, negV, cmpV, cmpI, addV, subV, powV, modV, divV, mulV, slV, ixV, isV, isNonD] using e1
    simp only [lcK, nameG, yesT, M.bind, M.pure, noX, g1, cond, List.length_map, hz, if_true]
    simpa [runS, startR, seqS, ifS, retS, retN, passS, dropS, asgS, nameG, vE, kE, getS, argsE, callF, callKF, callV, lstE, tupE, mkT, mkL, M.bind, M.pure, M.bad, rd, ofO, andsE, orsE, andsT, orsT, andE, orE, notE, andT, orT, notT, truT, ifE, binE, negE, cmpE, cmpT, chainE, chainT, ixE, slE, partO, intO, itemsO, yesT, anyI, enumI, zipI, rng1I, rng2I, walkO, lcE, lcK, wipeR, noX, forS, forK, methV, tyOk, par2S, tupG, gsK, subG, isiV, lenV, intV, strV, Rx.absV, maxV, minV, allV, sumV, sortedV, tupleV, listV, divmodV, tyD, truV, binV, negV, cmpV, cmpI, addV, subV, powV, modV, divV, mulV, slV, ixV, isV, isNonD] using e2
theorem count_len (n : Nat) (lo : Int) : (countD lo n).length = n := countD_len n lo
theorem group_ok {τ : Sto} {n k : Nat} (T : Tub τ n k) (hk : k + 100 ≤ 1000000) {most : Int} (h1 : 1 ≤ most) (h2 : most ≤ 9) : ∃ (xs : List Int) (τ' : Sto), m__law_group [.loc n, .int most] τ = .ok (tupI xs) τ' ∧ Tub τ' n (k + 60) ∧ Grp xs ∧ (xs.length : Int) ≤ most := by
  obtain ⟨v, τ1, e1, T1, a, b⟩ := cup_ok T (by omega) (many := most) (by omega) (by omega)
  obtain ⟨m, hm⟩ : ∃ m : Nat, (1 + v).toNat = m := ⟨_, rfl⟩
  have hm1 : 1 ≤ m := by omega
  have hm2 : (m : Int) ≤ most := by omega
  obtain ⟨ws, τ2, e2, T2, r2, l2⟩ := lc_vals (n := n) (ρ := [some (.loc n), some (.int most), none]) (fun d => rfl) (countD 0 m) [] τ1 (k + 1) T1 (by rw [countD_len]; omega) (by simp [runS, startR, seqS, ifS, retS, retN, passS, dropS, asgS, nameG, vE, kE, getS, argsE, callF, callKF, callV, lstE, tupE, mkT, mkL, M.bind, M.pure, M.bad, rd, ofO, andsE, orsE, andsT, orsT, andE, orE, notE, andT, orT, notT, truT, ifE, binE, negE, cmpE, cmpT, chainE, chainT, ixE, slE, partO, intO, itemsO, yesT, anyI, enumI, zipI, rng1I, rng2I, walkO, lcE, lcK, wipeR, noX, forS, forK, methV, tyOk, par2S, tupG, gsK, subG, isiV, lenV, intV, strV, Rx.absV, maxV, minV, allV, sumV, sortedV, tupleV, listV, divmodV, tyD, truV, binV, negV, cmpV, cmpI, addV, subV, powV, modV, divV, mulV, slV, ixV, isV, isNonD]) (by rw [countD_len]; simp [runS, startR, seqS, ifS, retS, retN, passS, dropS, asgS, nameG, vE, kE, getS, argsE, callF, callKF, callV, lstE, tupE, mkT, mkL, M.bind, M.pure, M.bad, rd, ofO, andsE, orsE, andsT, orsT, andE, orE, notE, andT, orT, notT, truT, ifE, binE, negE, cmpE, cmpT, chainE, chainT, ixE, slE, partO, intO, itemsO, yesT, anyI, enumI, zipI, rng1I, rng2I, walkO, lcE, lcK, wipeR, noX, forS, forK, methV, tyOk, par2S, tupG, gsK, subG, isiV, lenV, intV, strV, Rx.absV, maxV, minV, allV, sumV, sortedV, tupleV, listV, divmodV, tyD, truV, binV, negV, cmpV, cmpI, addV, subV, powV, modV, divV, mulV, slV, ixV, isV, isNonD]; omega)
  rw [countD_len] at T2 l2
  simp [runS, startR, seqS, ifS, retS, retN, passS, dropS, asgS, nameG, vE, kE, getS, argsE, callF, callKF, callV, lstE, tupE, mkT, mkL, M.bind, M.pure, M.bad, rd, ofO, andsE, orsE, andsT, orsT, andE, orE, notE, andT, orT, notT, truT, ifE, binE, negE, cmpE, cmpT, chainE, chainT, ixE, slE, partO, intO, itemsO, yesT, anyI, enumI, zipI, rng1I, rng2I, walkO, lcE, lcK, wipeR, noX, forS, forK, methV, tyOk, par2S, tupG, gsK, subG, isiV, lenV, intV, strV, Rx.absV, maxV, minV, allV, sumV, sortedV, tupleV, listV, divmodV, tyD, truV, binV, negV, cmpV, cmpI, addV, subV, powV, modV, divV, mulV, slV, ixV, isV, isNonD] at l2 e2
  have p1 : -4611686018427387904 ≤ 1 + v := by omega
  have p2 : 1 + v < 4611686018427387904 := by omega
  have perm := sortI_perm ws
  refine ⟨sortI ws, τ2, ?_, ?_, ⟨fun z hz => r2 z (perm.mem_iff.mp hz), by rw [perm.length_eq]; omega, by rw [perm.length_eq]; omega, sortI_sorted ws⟩, by rw [perm.length_eq]; omega⟩
  · have q := intsO_map ws
    simp [runS, startR, seqS, ifS, retS, retN, passS, dropS, asgS, nameG, vE, kE, getS, argsE, callF, callKF, callV, lstE, tupE, mkT, mkL, M.bind, M.pure, M.bad, rd, ofO, andsE, orsE, andsT, orsT, andE, orE, notE, andT, orT, notT, truT, ifE, binE, negE, cmpE, cmpT, chainE, chainT, ixE, slE, partO, intO, itemsO, yesT, anyI, enumI, zipI, rng1I, rng2I, walkO, lcE, lcK, wipeR, noX, forS, forK, methV, tyOk, par2S, tupG, gsK, subG, isiV, lenV, intV, strV, Rx.absV, maxV, minV, allV, sumV, sortedV, tupleV, listV, divmodV, tyD, truV, binV, negV, cmpV, cmpI, addV, subV, powV, modV, divV, mulV, slV, ixV, isV, isNonD, m__law_group, e1, rng1O, p1, p2, hm, e2, q]
  · obtain ⟨a, b, c, t1, t2, t3, t4, t5, t6⟩ := T2.ex
    exact ⟨a, b, c, t1, t2, t3, t4, t5, by omega⟩
theorem two_ok {τ : Sto} {n k : Nat} (T : Tub τ n k) (hk : k + 300 ≤ 1000000) : ∃ (xs ys : List Int) (τ' : Sto), m__law_two [.loc n] τ = .ok (.tup [tupI xs, tupI ys]) τ' ∧ Tub τ' n (k + 120) ∧ Grp xs ∧ Grp ys ∧ xs.length ≤ 5 ∧ ys.length ≤ 5 := by
  obtain ⟨xs, τ1, e1, T1, g1, l1⟩ := group_ok T (by omega) (most := 5) (by decide) (by decide)
  have hx : (if (10 : Int) - xs.length < 5 then (10 : Int) - xs.length else 5) = 5 := by
    rw [if_neg (by omega)]
  obtain ⟨ys, τ2, e2, T2, g2, l2⟩ := group_ok T1 (by omega) (most := 5) (by decide) (by decide)
  have hz : 2 ≤ sizeLine := by rw [sizeLine_eq]; omega
  refine ⟨xs, ys, τ2, ?_, ?_, g1, g2, by omega, by omega⟩
  · simp [runS, startR, seqS, ifS, retS, retN, passS, dropS, asgS, nameG, vE, kE, getS, argsE, callF, callKF, callV, lstE, tupE, mkT, mkL, M.bind, M.pure, M.bad, rd, ofO, andsE, orsE, andsT, orsT, andE, orE, notE, andT, orT, notT, truT, ifE, binE, negE, cmpE, cmpT, chainE, chainT, ixE, slE, partO, intO, itemsO, yesT, anyI, enumI, zipI, rng1I, rng2I, walkO, lcE, lcK, wipeR, noX, forS, forK, methV, tyOk, par2S, tupG, gsK, subG, isiV, lenV, intV, strV, Rx.absV, maxV, minV, allV, sumV, sortedV, tupleV, listV, divmodV, tyD, truV, binV, negV, cmpV, cmpI, addV, subV, powV, modV, divV, mulV, slV, ixV, isV, isNonD] at e1 e2
    simp [runS, startR, seqS, ifS, retS, retN, passS, dropS, asgS, nameG, vE, kE, getS, argsE, callF, callKF, callV, lstE, tupE, mkT, mkL, M.bind, M.pure, M.bad, rd, ofO, andsE, orsE, andsT, orsT, andE, orE, notE, andT, orT, notT, truT, ifE, binE, negE, cmpE, cmpT, chainE, chainT, ixE, slE, partO, intO, itemsO, yesT, anyI, enumI, zipI, rng1I, rng2I, walkO, lcE, lcK, wipeR, noX, forS, forK, methV, tyOk, par2S, tupG, gsK, subG, isiV, lenV, intV, strV, Rx.absV, maxV, minV, allV, sumV, sortedV, tupleV, listV, divmodV, tyD, truV, binV, negV, cmpV, cmpI, addV, subV, powV, modV, divV, mulV, slV, ixV, isV, isNonD, m__law_two, e1, hx, e2, hz]
  · obtain ⟨a, b, c, t1, t2, t3, t4, t5, t6⟩ := T2.ex
    exact ⟨a, b, c, t1, t2, t3, t4, t5, by omega⟩
/-! ### the rounds -/
theorem rows_okD {xs ys : List Int} (h : Grp xs) (h' : Grp ys) : okD 3 (rowsOf xs ys) = true := by
  simp [runS, startR, seqS, ifS, retS, retN, passS, dropS, asgS, nameG, vE, kE, getS, argsE, callF, callKF, callV, lstE, tupE, mkT, mkL, M.bind, M.pure, M.bad, rd, ofO, andsE, orsE, andsT, orsT, andE, orE, notE, andT, orT, notT, truT, ifE, binE, negE, cmpE, cmpT, chainE, chainT, ixE, slE, partO, intO, itemsO, yesT, anyI, enumI, zipI, rng1I, rng2I, walkO, lcE, lcK, wipeR, noX, forS, forK, methV, tyOk, par2S, tupG, gsK, subG, isiV, lenV, intV, strV, Rx.absV, maxV, minV, allV, sumV, sortedV, tupleV, listV, divmodV, tyD, truV, binV, negV, cmpV, cmpI, addV, subV, powV, modV, divV, mulV, slV, ixV, isV, isNonD, okD, okDs, line_ok lt_one h, line_ok lt_two h']
theorem pair_okD (xs ys : List Int) : okD 3 (.tup [tupI xs, tupI ys]) = true := by
  simp [runS, startR, seqS, ifS, retS, retN, passS, dropS, asgS, nameG, vE, kE, getS, argsE, callF, callKF, callV, lstE, tupE, mkT, mkL, M.bind, M.pure, M.bad, rd, ofO, andsE, orsE, andsT, orsT, andE, orE, notE, andT, orT, notT, truT, ifE, binE, negE, cmpE, cmpT, chainE, chainT, ixE, slE, partO, intO, itemsO, yesT, anyI, enumI, zipI, rng1I, rng2I, walkO, lcE, lcK, wipeR, noX, forS, forK, methV, tyOk, par2S, tupG, gsK, subG, isiV, lenV, intV, strV, Rx.absV, maxV, minV, allV, sumV, sortedV, tupleV, listV, divmodV, tyD, truV, binV, negV, cmpV, cmpI, addV, subV, powV, modV, divV, mulV, slV, ixV, isV, isNonD, okD, okDs, okDs_ints]
theorem split_inj {w : Str} (hw : 32 ∉ w.cps.toList) {xs ys : List Int} (h : Grp xs) (h' : Grp ys) (e : lineOf w xs = lineOf w ys) : xs = ys := by
  have h1 := split_line hw h
  have h2 := split_line hw h'
  rw [e, h2] at h1
  injection h1 with _ h3
  have : ∀ (as bs : List Int), (∀ v ∈ as, -999 ≤ v ∧ v ≤ 999) → (∀ v ∈ bs, -999 ≤ v ∧ v ≤ 999) → as.map sv = bs.map sv → as = bs := by
    intro as
    induction as with
    | nil => intro bs _ _ e; cases bs <;> simp [runS, startR, seqS, ifS, retS, retN, passS, dropS, asgS, nameG, vE, kE, getS, argsE, callF, callKF, callV, lstE, tupE, mkT, mkL, M.bind, M.pure, M.bad, rd, ofO, andsE, orsE, andsT, orsT, andE, orE, notE, andT, orT, notT, truT, ifE, binE, negE, cmpE, cmpT, chainE, chainT, ixE, slE, partO, intO, itemsO, yesT, anyI, enumI, zipI, rng1I, rng2I, walkO, lcE, lcK, wipeR, noX, forS, forK, methV, tyOk, par2S, tupG, gsK, subG, isiV, lenV, intV, strV, Rx.absV, maxV, minV, allV, sumV, sortedV, tupleV, listV, divmodV, tyD, truV, binV, negV, cmpV, cmpI, addV, subV, powV, modV, divV, mulV, slV, ixV, isV, isNonD] at e ⊢
    | cons a as ih =>
      intro bs ha hb e
      cases bs with
      | nil => simp [runS, startR, seqS, ifS, retS, retN, passS, dropS, asgS, nameG, vE, kE, getS, argsE, callF, callKF, callV, lstE, tupE, mkT, mkL, M.bind, M.pure, M.bad, rd, ofO, andsE, orsE, andsT, orsT, andE, orE, notE, andT, orT, notT, truT, ifE, binE, negE, cmpE, cmpT, chainE, chainT, ixE, slE, partO, intO, itemsO, yesT, anyI, enumI, zipI, rng1I, rng2I, walkO, lcE, lcK, wipeR, noX, forS, forK, methV, tyOk, par2S, tupG, gsK, subG, isiV, lenV, intV, strV, Rx.absV, maxV, minV, allV, sumV, sortedV, tupleV, listV, divmodV, tyD, truV, binV, negV, cmpV, cmpI, addV, subV, powV, modV, divV, mulV, slV, ixV, isV, isNonD] at e
      | cons b bs =>
        simp only [List.map_cons, List.cons.injEq] at e
        have i1 := (i_all (ha a List.mem_cons_self).1 (ha a List.mem_cons_self).2).1
        have i2 := (i_all (hb b List.mem_cons_self).1 (hb b List.mem_cons_self).2).1
        rw [e.1, i2] at i1
        cases i1
        rw [ih bs (fun v hv => ha v (List.mem_cons_of_mem _ hv)) (fun v hv => hb v (List.mem_cons_of_mem _ hv)) e.2]
  exact (this ys xs h'.lo h.lo h3).symm
theorem tupI_inj {xs ys : List Int} (h : tupI xs = tupI ys) : xs = ys := by
  have : xs.map D.int = ys.map D.int := by simpa [runS, startR, seqS, ifS, retS, retN, passS, dropS, asgS, nameG, vE, kE, getS, argsE, callF, callKF, callV, lstE, tupE, mkT, mkL, M.bind, M.pure, M.bad, rd, ofO, andsE, orsE, andsT, orsT, andE, orE, notE, andT, orT, notT, truT, ifE, binE, negE, cmpE, cmpT, chainE, chainT, ixE, slE, partO, intO, itemsO, yesT, anyI, enumI, zipI, rng1I, rng2I, walkO, lcE, lcK, wipeR, noX, forS, forK, methV, tyOk, par2S, tupG, gsK, subG, isiV, lenV, intV, strV, Rx.absV, maxV, minV, allV, sumV, sortedV, tupleV, listV, divmodV, tyD, truV, binV, negV, cmpV, cmpI, addV, subV, powV, modV, divV, mulV, slV, ixV, isV, isNonD] using h
  have q := intsO_map xs
  rw [this, intsO_map] at q
  exact (Option.some.inj q).symm
theorem eq_rows {xs ys us vs : List Int} (h1 : Grp xs) (h2 : Grp ys) (h3 : Grp us) (h4 : Grp vs) : ∃ b, eqO (rowsOf us vs) (rowsOf xs ys) = some b ∧ eqO (.tup [tupI us, tupI vs]) (.tup [tupI xs, tupI ys]) = some b := by
  obtain ⟨b, e1, i1⟩ := eqO_ok (by decide) (rows_okD h3 h4) (rows_okD h1 h2)
  obtain ⟨b', e2, i2⟩ := eqO_ok (by decide) (pair_okD us vs) (pair_okD xs ys)
  refine ⟨b, e1, ?_⟩
  rw [e2]
  congr 1
  rw [Bool.eq_iff_iff, i1, i2]
  constructor
  · intro e
    simp only [D.tup.injEq, List.cons.injEq, and_true] at e
    have q1 : us = xs := tupI_inj (congrArg D.tup e.1)
    have q2 : vs = ys := tupI_inj (congrArg D.tup e.2)
    rw [q1, q2]
  · intro e
    simp only [D.tup.injEq, List.cons.injEq, and_true, D.str.injEq] at e
    rw [split_inj no32_one h3 h1 e.1, split_inj no32_two h4 h2 e.2]
theorem same8 {d : D} (h : okD 7 d = true) (hs : small 7 d = true) (τ : Sto) : m__law_same 8 [d, d] τ = .ok (.bl true) τ := same_ok 7 d τ (by decide) h hs
theorem small_tupI (n : Nat) {xs : List Int} (h : xs.length ≤ 1000) : small (n + 1) (tupI xs) = true := by
  simp only [small, Bool.and_eq_true, decide_eq_true_eq, List.all_eq_true, List.length_map]
  refine ⟨h, fun d hd => ?_⟩
  obtain ⟨v, _, rfl⟩ := List.mem_map.mp hd
  cases n <;> rfl
theorem small_rows (n : Nat) (xs ys : List Int) : small (n + 1) (rowsOf xs ys) = true := by
  cases n <;> simp [runS, startR, seqS, ifS, retS, retN, passS, dropS, asgS, nameG, vE, kE, getS, argsE, callF, callKF, callV, lstE, tupE, mkT, mkL, M.bind, M.pure, M.bad, rd, ofO, andsE, orsE, andsT, orsT, andE, orE, notE, andT, orT, notT, truT, ifE, binE, negE, cmpE, cmpT, chainE, chainT, ixE, slE, partO, intO, itemsO, yesT, anyI, enumI, zipI, rng1I, rng2I, walkO, lcE, lcK, wipeR, noX, forS, forK, methV, tyOk, par2S, tupG, gsK, subG, isiV, lenV, intV, strV, Rx.absV, maxV, minV, allV, sumV, sortedV, tupleV, listV, divmodV, tyD, truV, binV, negV, cmpV, cmpI, addV, subV, powV, modV, divV, mulV, slV, ixV, isV, isNonD, small]
theorem same_rows {xs ys : List Int} (h : Grp xs) (h' : Grp ys) (τ : Sto) : m__law_same 8 [.lst [rowsOf xs ys, rowsOf xs ys], .lst [rowsOf xs ys, rowsOf xs ys]] τ = .ok (.bl true) τ := by
  refine same8 ?_ ?_ τ
  · simp [runS, startR, seqS, ifS, retS, retN, passS, dropS, asgS, nameG, vE, kE, getS, argsE, callF, callKF, callV, lstE, tupE, mkT, mkL, M.bind, M.pure, M.bad, rd, ofO, andsE, orsE, andsT, orsT, andE, orE, notE, andT, orT, notT, truT, ifE, binE, negE, cmpE, cmpT, chainE, chainT, ixE, slE, partO, intO, itemsO, yesT, anyI, enumI, zipI, rng1I, rng2I, walkO, lcE, lcK, wipeR, noX, forS, forK, methV, tyOk, par2S, tupG, gsK, subG, isiV, lenV, intV, strV, Rx.absV, maxV, minV, allV, sumV, sortedV, tupleV, listV, divmodV, tyD, truV, binV, negV, cmpV, cmpI, addV, subV, powV, modV, divV, mulV, slV, ixV, isV, isNonD, okD, okDs, line_ok lt_one h, line_ok lt_two h']
  · simp [runS, startR, seqS, ifS, retS, retN, passS, dropS, asgS, nameG, vE, kE, getS, argsE, callF, callKF, callV, lstE, tupE, mkT, mkL, M.bind, M.pure, M.bad, rd, ofO, andsE, orsE, andsT, orsT, andE, orE, notE, andT, orT, notT, truT, ifE, binE, negE, cmpE, cmpT, chainE, chainT, ixE, slE, partO, intO, itemsO, yesT, anyI, enumI, zipI, rng1I, rng2I, walkO, lcE, lcK, wipeR, noX, forS, forK, methV, tyOk, par2S, tupG, gsK, subG, isiV, lenV, intV, strV, Rx.absV, maxV, minV, allV, sumV, sortedV, tupleV, listV, divmodV, tyD, truV, binV, negV, cmpV, cmpI, addV, subV, powV, modV, divV, mulV, slV, ixV, isV, isNonD, small]
theorem same_pair {xs ys : List Int} (h : Grp xs) (h' : Grp ys) (τ : Sto) : m__law_same 8 [.tup [tupI xs, tupI ys], .tup [tupI xs, tupI ys]] τ = .ok (.bl true) τ := by
  have a := small_tupI 5 (xs := xs) (by have := h.n9; omega)
  have b := small_tupI 5 (xs := ys) (by have := h'.n9; omega)
  refine same8 ?_ ?_ τ
  · simp [runS, startR, seqS, ifS, retS, retN, passS, dropS, asgS, nameG, vE, kE, getS, argsE, callF, callKF, callV, lstE, tupE, mkT, mkL, M.bind, M.pure, M.bad, rd, ofO, andsE, orsE, andsT, orsT, andE, orE, notE, andT, orT, notT, truT, ifE, binE, negE, cmpE, cmpT, chainE, chainT, ixE, slE, partO, intO, itemsO, yesT, anyI, enumI, zipI, rng1I, rng2I, walkO, lcE, lcK, wipeR, noX, forS, forK, methV, tyOk, par2S, tupG, gsK, subG, isiV, lenV, intV, strV, Rx.absV, maxV, minV, allV, sumV, sortedV, tupleV, listV, divmodV, tyD, truV, binV, negV, cmpV, cmpI, addV, subV, powV, modV, divV, mulV, slV, ixV, isV, isNonD, okD, okDs, okDs_ints]
  · simp [runS, startR, seqS, ifS, retS, retN, passS, dropS, asgS, nameG, vE, kE, getS, argsE, callF, callKF, callV, lstE, tupE, mkT, mkL, M.bind, M.pure, M.bad, rd, ofO, andsE, orsE, andsT, orsT, andE, orE, notE, andT, orT, notT, truT, ifE, binE, negE, cmpE, cmpT, chainE, chainT, ixE, slE, partO, intO, itemsO, yesT, anyI, enumI, zipI, rng1I, rng2I, walkO, lcE, lcK, wipeR, noX, forS, forK, methV, tyOk, par2S, tupG, gsK, subG, isiV, lenV, intV, strV, Rx.absV, maxV, minV, allV, sumV, sortedV, tupleV, listV, divmodV, tyD, truV, binV, negV, cmpV, cmpI, addV, subV, powV, modV, divV, mulV, slV, ixV, isV, isNonD, small] at a b ⊢
    first | exact ⟨a, b⟩ | simp [runS, startR, seqS, ifS, retS, retN, passS, dropS, asgS, nameG, vE, kE, getS, argsE, callF, callKF, callV, lstE, tupE, mkT, mkL, M.bind, M.pure, M.bad, rd, ofO, andsE, orsE, andsT, orsT, andE, orE, notE, andT, orT, notT, truT, ifE, binE, negE, cmpE, cmpT, chainE, chainT, ixE, slE, partO, intO, itemsO, yesT, anyI, enumI, zipI, rng1I, rng2I, walkO, lcE, lcK, wipeR, noX, forS, forK, methV, tyOk, par2S, tupG, gsK, subG, isiV, lenV, intV, strV, Rx.absV, maxV, minV, allV, sumV, sortedV, tupleV, listV, divmodV, tyD, truV, binV, negV, cmpV, cmpI, addV, subV, powV, modV, divV, mulV, slV, ixV, isV, isNonD, a, b]
theorem same_pairs {xs ys : List Int} (h : Grp xs) (h' : Grp ys) (τ : Sto) : m__law_same 8 [.lst [.tup [tupI xs, tupI ys], .tup [tupI xs, tupI ys], .tup [tupI xs, tupI ys]], .lst [.tup [tupI xs, tupI ys], .tup [tupI xs, tupI ys], .tup [tupI xs, tupI ys]]] τ = .ok (.bl true) τ := by
  have a := small_tupI 4 (xs := xs) (by have := h.n9; omega)
  have b := small_tupI 4 (xs := ys) (by have := h'.n9; omega)
  refine same8 ?_ ?_ τ
  · simp [runS, startR, seqS, ifS, retS, retN, passS, dropS, asgS, nameG, vE, kE, getS, argsE, callF, callKF, callV, lstE, tupE, mkT, mkL, M.bind, M.pure, M.bad, rd, ofO, andsE, orsE, andsT, orsT, andE, orE, notE, andT, orT, notT, truT, ifE, binE, negE, cmpE, cmpT, chainE, chainT, ixE, slE, partO, intO, itemsO, yesT, anyI, enumI, zipI, rng1I, rng2I, walkO, lcE, lcK, wipeR, noX, forS, forK, methV, tyOk, par2S, tupG, gsK, subG, isiV, lenV, intV, strV, Rx.absV, maxV, minV, allV, sumV, sortedV, tupleV, listV, divmodV, tyD, truV, binV, negV, cmpV, cmpI, addV, subV, powV, modV, divV, mulV, slV, ixV, isV, isNonD, okD, okDs, okDs_ints]
  · simp [runS, startR, seqS, ifS, retS, retN, passS, dropS, asgS, nameG, vE, kE, getS, argsE, callF, callKF, callV, lstE, tupE, mkT, mkL, M.bind, M.pure, M.bad, rd, ofO, andsE, orsE, andsT, orsT, andE, orE, notE, andT, orT, notT, truT, ifE, binE, negE, cmpE, cmpT, chainE, chainT, ixE, slE, partO, intO, itemsO, yesT, anyI, enumI, zipI, rng1I, rng2I, walkO, lcE, lcK, wipeR, noX, forS, forK, methV, tyOk, par2S, tupG, gsK, subG, isiV, lenV, intV, strV, Rx.absV, maxV, minV, allV, sumV, sortedV, tupleV, listV, divmodV, tyD, truV, binV, negV, cmpV, cmpI, addV, subV, powV, modV, divV, mulV, slV, ixV, isV, isNonD, small] at a b ⊢
    first | exact ⟨a, b⟩ | simp [runS, startR, seqS, ifS, retS, retN, passS, dropS, asgS, nameG, vE, kE, getS, argsE, callF, callKF, callV, lstE, tupE, mkT, mkL, M.bind, M.pure, M.bad, rd, ofO, andsE, orsE, andsT, orsT, andE, orE, notE, andT, orT, notT, truT, ifE, binE, negE, cmpE, cmpT, chainE, chainT, ixE, slE, partO, intO, itemsO, yesT, anyI, enumI, zipI, rng1I, rng2I, walkO, lcE, lcK, wipeR, noX, forS, forK, methV, tyOk, par2S, tupG, gsK, subG, isiV, lenV, intV, strV, Rx.absV, maxV, minV, allV, sumV, sortedV, tupleV, listV, divmodV, tyD, truV, binV, negV, cmpV, cmpI, addV, subV, powV, modV, divV, mulV, slV, ixV, isV, isNonD, a, b]
/-- the body of the rounds -/
def rB : SK := (seqS (asgS (callF m__law_two [.one (vE 0)]) (tupG [nameG 2, nameG 3])) (seqS (asgS (tupE [.one (callF m__law_line [.one (kE (.str "one")), .one (vE 2)]), .one (callF m__law_line [.one (kE (.str "two")), .one (vE 3)])]) (nameG 4)) (seqS (ifS (notT (truT (callF (m__law_same 8) [.one (lstE [.one (callF m_group_rows [.one (vE 2), .one (vE 3)]), .one (callKF m_group_rows [1, 0] [] [.one (vE 3), .one (vE 2)])]), .one (lstE [.one (vE 4), .one (vE 4)])]))) (retS (kE (.bl false))) (passS)) (seqS (ifS (notT (truT (callF (m__law_same 8) [.one (lstE [.one (callF m_read_groups [.one (vE 4)]), .one (callKF m_read_groups [0] [] [.one (vE 4)]), .one (callF m_read_groups [.one (callF m_group_rows [.one (vE 2), .one (vE 3)])])]), .one (binE .Mult (lstE [.one (tupE [.one (vE 2), .one (vE 3)])]) (kE (.int (3))))]))) (retS (kE (.bl false))) (passS)) (seqS (asgS (callF m__law_two [.one (vE 0)]) (tupG [nameG 5, nameG 6])) (seqS (ifS (cmpT .NotEq (cmpE .Eq (callF m_group_rows [.one (vE 5), .one (vE 6)]) (vE 4)) (cmpE .Eq (tupE [.one (vE 5), .one (vE 6)]) (tupE [.one (vE 2), .one (vE 3)]))) (retS (kE (.bl false))) (passS)) (ifS (andsT [cmpT .Lt (binE .Add (callV lenV [.one (vE 2)]) (callV lenV [.one (vE 6)])) (kE (.int (11))), notT (truT (callF (m__law_same 8) [.one (callF m_read_groups [.one (tupE [.one (ixE (vE 4) (kE (.int (0)))), .one (callF m__law_line [.one (kE (.str "two")), .one (vE 6)])])]), .one (tupE [.one (vE 2), .one (vE 6)])]))]) (retS (kE (.bl false))) (passS))))))))
def rEnd : SK := (seqS (asgS (tupE [.one (tupE [.one (negE (kE (.int (999))))]), .one (tupE [.one (kE (.int (999)))])]) (nameG 7)) (retS (callF (m__law_same 8) [.one (lstE [.one (callF m_group_rows [.one (ixE (vE 7) (kE (.int (0)))), .one (ixE (vE 7) (kE (.int (1))))]), .one (callF m_read_groups [.one (tupE [.one (kE (.str "one -999")), .one (kE (.str "two 999"))])])]), .one (lstE [.one (tupE [.one (kE (.str "one -999")), .one (kE (.str "two 999"))]), .one (vE 7)])])))
theorem right_eq : m__law_right = runS ["tub", "lap", "one", "two", "rows", "first", "second", "ends"] (seqS (forS (rng1I (kE (.int (6)))) (nameG 1) rB) rEnd) := rfl
theorem round_ok {τ : Sto} {n k : Nat} (T : Tub τ n k) (hk : k + 1000 ≤ 1000000) (nx bk ct : KR) (a b c d e f : Option D) : ∃ (τ' : Sto) (c' d' e' f' g' : D), rB nx bk ct [some (.loc n), a, b, c, d, e, f, none] τ = nx [some (.loc n), a, some c', some d', some e', some f', some g', none] τ' ∧ Tub τ' n (k + 240) := by
  obtain ⟨xs, ys, τ1, e1, T1, g1, g2, l1, l2⟩ := two_ok T (by omega)
  obtain ⟨us, vs, τ2, e2, T2, g3, g4, l3, l4⟩ := two_ok T1 (by omega)
  have hz2 : 2 ≤ sizeLine := by rw [sizeLine_eq]; omega
  have hz3 : 3 ≤ sizeLine := by rw [sizeLine_eq]; omega
  have hz1 : 1 ≤ sizeLine := by rw [sizeLine_eq]; omega
  have r1 := fun τ => law_line_ok (len3 "one" (.inl rfl)) g1 τ
  have r2 := fun τ => law_line_ok (len3 "two" (.inr rfl)) g2 τ
  have r3 := fun τ => law_line_ok (len3 "two" (.inr rfl)) g4 τ
  have p1 := fun τ => group_rows_ok g1 g2 (by omega) τ
  have p2 := fun τ => group_rows_ok g3 g4 (by omega) τ
  have q1 := fun τ => read_groups_ok g1 g2 (by omega) τ
  have q2 := fun τ => read_groups_ok g1 g4 (by omega) τ
  have s1 := fun τ => same_rows g1 g2 τ
  have s2 := fun τ => same_pairs g1 g2 τ
  have s3 := fun τ => same_pair g1 g4 τ
  obtain ⟨bb, b1, b2⟩ := eq_rows g1 g2 g3 g4
  have b3 : eqO (.bl bb) (.bl bb) = some true := by cases bb <;> rfl
  have ll : (xs.length : Int) + vs.length < 11 := by omega
  refine ⟨τ2, tupI xs, tupI ys, rowsOf xs ys, tupI us, tupI vs, ?_, ?_⟩
  · simp [runS, startR, seqS, ifS, retS, retN, passS, dropS, asgS, nameG, vE, kE, getS, argsE, callF, callKF, callV, lstE, tupE, mkT, mkL, M.bind, M.pure, M.bad, rd, ofO, andsE, orsE, andsT, orsT, andE, orE, notE, andT, orT, notT, truT, ifE, binE, negE, cmpE, cmpT, chainE, chainT, ixE, slE, partO, intO, itemsO, yesT, anyI, enumI, zipI, rng1I, rng2I, walkO, lcE, lcK, wipeR, noX, forS, forK, methV, tyOk, par2S, tupG, gsK, subG, isiV, lenV, intV, strV, Rx.absV, maxV, minV, allV, sumV, sortedV, tupleV, listV, divmodV, tyD, truV, binV, negV, cmpV, cmpI, addV, subV, powV, modV, divV, mulV, slV, ixV, isV, isNonD] at e1 e2 r1 r2 r3 p1 p2 q1 q2 s1 s2 s3 b1 b2
    simp [runS, startR, seqS, ifS, retS, retN, passS, dropS, asgS, nameG, vE, kE, getS, argsE, callF, callKF, callV, lstE, tupE, mkT, mkL, M.bind, M.pure, M.bad, rd, ofO, andsE, orsE, andsT, orsT, andE, orE, notE, andT, orT, notT, truT, ifE, binE, negE, cmpE, cmpT, chainE, chainT, ixE, slE, partO, intO, itemsO, yesT, anyI, enumI, zipI, rng1I, rng2I, walkO, lcE, lcK, wipeR, noX, forS, forK, methV, tyOk, par2S, tupG, gsK, subG, isiV, lenV, intV, strV, Rx.absV, maxV, minV, allV, sumV, sortedV, tupleV, listV, divmodV, tyD, truV, binV, negV, cmpV, cmpI, addV, subV, powV, modV, divV, mulV, slV, ixV, isV, isNonD, rB, e1, e2, r1, r2, r3, p1, p2, q1, q2, s1, s2, s3, b1, b2, b3, cmpV, ll, hz1, hz2, hz3, pickL, atI, ixN]
  · obtain ⟨a, b, c, t1, t2, t3, t4, t5, t6⟩ := T2.ex
    exact ⟨a, b, c, t1, t2, t3, t4, t5, by omega⟩
theorem rounds_ok {n : Nat} (nx : KR) : ∀ (ds : List D) (τ : Sto) (k : Nat) (a b c d e f : Option D), Tub τ n k → k + 1000 * (ds.length + 1) ≤ 1000000 → ∃ (τ' : Sto) (a' b' c' d' e' f' : Option D), forK (nameG 1) rB nx ds [some (.loc n), a, b, c, d, e, f, none] τ = nx [some (.loc n), a', b', c', d', e', f', none] τ'
  | [], τ, k, a, b, c, d, e, f, T, _ => ⟨τ, a, b, c, d, e, f, rfl⟩
  | x :: ds, τ, k, a, b, c, d, e, f, T, hk => by
    simp only [List.length_cons] at hk
    obtain ⟨τ1, c', d', e', f', g', h1, T1⟩ := round_ok T (by omega) (forK (nameG 1) rB nx ds) nx (forK (nameG 1) rB nx ds) (some x) b c d e f
    obtain ⟨τ2, a2, b2, c2, d2, e2, f2, h2⟩ := rounds_ok nx ds τ1 (k + 240) (some x) (some c') (some d') (some e') (some f') (some g') T1 (by omega)
    exact ⟨τ2, a2, b2, c2, d2, e2, f2, h1.trans h2⟩
theorem grp1 {v : Int} (h : -999 ≤ v ∧ v ≤ 999) : Grp [v] := ⟨fun z hz => by rw [List.mem_singleton.mp hz]; exact h, by simp [runS, startR, seqS, ifS, retS, retN, passS, dropS, asgS, nameG, vE, kE, getS, argsE, callF, callKF, callV, lstE, tupE, mkT, mkL, M.bind, M.pure, M.bad, rd, ofO, andsE, orsE, andsT, orsT, andE, orE, notE, andT, orT, notT, truT, ifE, binE, negE, cmpE, cmpT, chainE, chainT, ixE, slE, partO, intO, itemsO, yesT, anyI, enumI, zipI, rng1I, rng2I, walkO, lcE, lcK, wipeR, noX, forS, forK, methV, tyOk, par2S, tupG, gsK, subG, isiV, lenV, intV, strV, Rx.absV, maxV, minV, allV, sumV, sortedV, tupleV, listV, divmodV, tyD, truV, binV, negV, cmpV, cmpI, addV, subV, powV, modV, divV, mulV, slV, ixV, isV, isNonD], by simp [runS, startR, seqS, ifS, retS, retN, passS, dropS, asgS, nameG, vE, kE, getS, argsE, callF, callKF, callV, lstE, tupE, mkT, mkL, M.bind, M.pure, M.bad, rd, ofO, andsE, orsE, andsT, orsT, andE, orE, notE, andT, orT, notT, truT, ifE, binE, negE, cmpE, cmpT, chainE, chainT, ixE, slE, partO, intO, itemsO, yesT, anyI, enumI, zipI, rng1I, rng2I, walkO, lcE, lcK, wipeR, noX, forS, forK, methV, tyOk, par2S, tupG, gsK, subG, isiV, lenV, intV, strV, Rx.absV, maxV, minV, allV, sumV, sortedV, tupleV, listV, divmodV, tyD, truV, binV, negV, cmpV, cmpI, addV, subV, powV, modV, divV, mulV, slV, ixV, isV, isNonD], by simp [runS, startR, seqS, ifS, retS, retN, passS, dropS, asgS, nameG, vE, kE, getS, argsE, callF, callKF, callV, lstE, tupE, mkT, mkL, M.bind, M.pure, M.bad, rd, ofO, andsE, orsE, andsT, orsT, andE, orE, notE, andT, orT, notT, truT, ifE, binE, negE, cmpE, cmpT, chainE, chainT, ixE, slE, partO, intO, itemsO, yesT, anyI, enumI, zipI, rng1I, rng2I, walkO, lcE, lcK, wipeR, noX, forS, forK, methV, tyOk, par2S, tupG, gsK, subG, isiV, lenV, intV, strV, Rx.absV, maxV, minV, allV, sumV, sortedV, tupleV, listV, divmodV, tyD, truV, binV, negV, cmpV, cmpI, addV, subV, powV, modV, divV, mulV, slV, ixV, isV, isNonD]⟩
theorem lines1 : lineOf "one" [-999] = Str.ofString "one -999" ∧ lineOf "two" [999] = Str.ofString "two 999" := by decide +kernel
theorem end_ok {n : Nat} (nx bk ct : KR) (τ : Sto) (a b c d e f : Option D) : rEnd nx bk ct [some (.loc n), a, b, c, d, e, f, none] τ = .ok (.bl true) τ := by
  have g1 := grp1 (v := -999) (by decide)
  have g2 := grp1 (v := 999) (by decide)
  have p1 := fun τ => group_rows_ok g1 g2 (by decide) τ
  have q1 := fun τ => read_groups_ok g1 g2 (by decide) τ
  have s1 : ∀ τ, m__law_same 8 [.lst [rowsOf [-999] [999], .tup [tupI [-999], tupI [999]]], .lst [rowsOf [-999] [999], .tup [tupI [-999], tupI [999]]]] τ = .ok (.bl true) τ := fun τ => by
    refine same8 ?_ ?_ τ
    · simp [runS, startR, seqS, ifS, retS, retN, passS, dropS, asgS, nameG, vE, kE, getS, argsE, callF, callKF, callV, lstE, tupE, mkT, mkL, M.bind, M.pure, M.bad, rd, ofO, andsE, orsE, andsT, orsT, andE, orE, notE, andT, orT, notT, truT, ifE, binE, negE, cmpE, cmpT, chainE, chainT, ixE, slE, partO, intO, itemsO, yesT, anyI, enumI, zipI, rng1I, rng2I, walkO, lcE, lcK, wipeR, noX, forS, forK, methV, tyOk, par2S, tupG, gsK, subG, isiV, lenV, intV, strV, Rx.absV, maxV, minV, allV, sumV, sortedV, tupleV, listV, divmodV, tyD, truV, binV, negV, cmpV, cmpI, addV, subV, powV, modV, divV, mulV, slV, ixV, isV, isNonD, okD, okDs, line_ok lt_one g1, line_ok lt_two g2]
    · simp [runS, startR, seqS, ifS, retS, retN, passS, dropS, asgS, nameG, vE, kE, getS, argsE, callF, callKF, callV, lstE, tupE, mkT, mkL, M.bind, M.pure, M.bad, rd, ofO, andsE, orsE, andsT, orsT, andE, orE, notE, andT, orT, notT, truT, ifE, binE, negE, cmpE, cmpT, chainE, chainT, ixE, slE, partO, intO, itemsO, yesT, anyI, enumI, zipI, rng1I, rng2I, walkO, lcE, lcK, wipeR, noX, forS, forK, methV, tyOk, par2S, tupG, gsK, subG, isiV, lenV, intV, strV, Rx.absV, maxV, minV, allV, sumV, sortedV, tupleV, listV, divmodV, tyD, truV, binV, negV, cmpV, cmpI, addV, subV, powV, modV, divV, mulV, slV, ixV, isV, isNonD, small]
  have hz1 : 1 ≤ sizeLine := by rw [sizeLine_eq]; omega
  have hz2 : 2 ≤ sizeLine := by rw [sizeLine_eq]; omega
  simp only [rowsOf, lines1.1, lines1.2] at p1 q1 s1
  simp [runS, startR, seqS, ifS, retS, retN, passS, dropS, asgS, nameG, vE, kE, getS, argsE, callF, callKF, callV, lstE, tupE, mkT, mkL, M.bind, M.pure, M.bad, rd, ofO, andsE, orsE, andsT, orsT, andE, orE, notE, andT, orT, notT, truT, ifE, binE, negE, cmpE, cmpT, chainE, chainT, ixE, slE, partO, intO, itemsO, yesT, anyI, enumI, zipI, rng1I, rng2I, walkO, lcE, lcK, wipeR, noX, forS, forK, methV, tyOk, par2S, tupG, gsK, subG, isiV, lenV, intV, strV, Rx.absV, maxV, minV, allV, sumV, sortedV, tupleV, listV, divmodV, tyD, truV, binV, negV, cmpV, cmpI, addV, subV, powV, modV, divV, mulV, slV, ixV, isV, isNonD] at p1 q1 s1
  simp [runS, startR, seqS, ifS, retS, retN, passS, dropS, asgS, nameG, vE, kE, getS, argsE, callF, callKF, callV, lstE, tupE, mkT, mkL, M.bind, M.pure, M.bad, rd, ofO, andsE, orsE, andsT, orsT, andE, orE, notE, andT, orT, notT, truT, ifE, binE, negE, cmpE, cmpT, chainE, chainT, ixE, slE, partO, intO, itemsO, yesT, anyI, enumI, zipI, rng1I, rng2I, walkO, lcE, lcK, wipeR, noX, forS, forK, methV, tyOk, par2S, tupG, gsK, subG, isiV, lenV, intV, strV, Rx.absV, maxV, minV, allV, sumV, sortedV, tupleV, listV, divmodV, tyD, truV, binV, negV, cmpV, cmpI, addV, subV, powV, modV, divV, mulV, slV, ixV, isV, isNonD, rEnd, p1, q1, s1, hz1, hz2, atI, ixN]
theorem rng_ok {m : Nat} (h : m ≤ 1000) : rng1O (.int (m : Nat)) = some (countD 0 m) := by
  unfold rng1O
  dsimp only
  rw [if_pos ⟨by omega, by omega⟩, Int.toNat_natCast]
theorem right_ok {τ : Sto} {n : Nat} (T : Tub τ n 0) : ∃ τ', m__law_right [.loc n] τ = .ok (.bl true) τ' := by
  obtain ⟨τ', a, b, c, d, e, f, h⟩ := rounds_ok (n := n) (fun ρ => rEnd (fun _ => M.pure .non) (fun _ => M.bad) (fun _ => M.bad) ρ) (countD 0 6) τ 0 none none none none none none T (by decide)
  refine ⟨τ', ?_⟩
  have h2 := h.trans (end_ok (n := n) (fun _ => M.pure .non) (fun _ => M.bad) (fun _ => M.bad) τ' a b c d e f)
  rw [right_eq]
  have p : rng1O (.int 6) = some (countD 0 6) := rng_ok (m := 6) (by decide)
  simpa [runS, startR, seqS, ifS, retS, retN, passS, dropS, asgS, nameG, vE, kE, getS, argsE, callF, callKF, callV, lstE, tupE, mkT, mkL, M.bind, M.pure, M.bad, rd, ofO, andsE, orsE, andsT, orsT, andE, orE, notE, andT, orT, notT, truT, ifE, binE, negE, cmpE, cmpT, chainE, chainT, ixE, slE, partO, intO, itemsO, yesT, anyI, enumI, zipI, rng1I, rng2I, walkO, lcE, lcK, wipeR, noX, forS, forK, methV, tyOk, par2S, tupG, gsK, subG, isiV, lenV, intV, strV, Rx.absV, maxV, minV, allV, sumV, sortedV, tupleV, listV, divmodV, tyD, truV, binV, negV, cmpV, cmpI, addV, subV, powV, modV, divV, mulV, slV, ixV, isV, isNonD, p] using h2
def tB : SK := asgS (binE .Mod (callV intV [.one (binE .Add (binE .Add (binE .Mult (vE 3) (kE (.int (25589)))) (binE .Mod (callV intV [.one (vE 4)]) (kE (.int (2147482327))))) (kE (.int (139))))]) (kE (.int (2147482873)))) (nameG 3)
theorem stir_ok {ns : List Int} {lap own : Int} (nx : KR) (τ : Sto) : ∀ (cells : List Int) (st : Int) (c : Option D), 0 ≤ st → st < 1000000000000 → ∃ (st' : Int) (c' : Option D),
    forK (nameG 4) tB nx (cells.map .int) [some (.scr ns), some (.int lap), some (.int own), some (.int st), c] τ = nx [some (.scr ns), some (.int lap), some (.int own), some (.int st'), c'] τ ∧ 0 ≤ st' ∧ (cells = [] → st' = st) ∧ (cells ≠ [] → st' < 2147482873)
  | [], st, c, h1, _ => ⟨st, c, rfl, h1, fun _ => rfl, fun z => absurd rfl z⟩
  | x :: cells, st, c, h1, h2 => by
    have m1 : mulOkB st 25589 = true := mul_small (big1000 (by omega)) (big1000 (by omega))
    obtain ⟨w, hw⟩ : ∃ w, w = (st * 25589 + x.fmod 2147482327 + 139).fmod 2147482873 := ⟨_, rfl⟩
    have fw : w = (st * 25589 + x.fmod 2147482327 + 139) % 2147482873 := by rw [hw]; exact Int.fmod_eq_emod_of_nonneg _ (by decide)
    have w0 : 0 ≤ w := by rw [fw]; exact Int.emod_nonneg _ (by decide)
    have w1 : w < 2147482873 := by rw [fw]; exact Int.emod_lt_of_pos _ (by decide)
    obtain ⟨st', c', e, a, b, d⟩ := stir_ok (ns := ns) (lap := lap) (own := own) nx τ cells w (some (.int x)) w0 (by omega)
    refine ⟨st', c', ?_, a, (fun z => by simp [runS, startR, seqS, ifS, retS, retN, passS, dropS, asgS, nameG, vE, kE, getS, argsE, callF, callKF, callV, lstE, tupE, mkT, mkL, M.bind, M.pure, M.bad, rd, ofO, andsE, orsE, andsT, orsT, andE, orE, notE, andT, orT, notT, truT, ifE, binE, negE, cmpE, cmpT, chainE, chainT, ixE, slE, partO, intO, itemsO, yesT, anyI, enumI, zipI, rng1I, rng2I, walkO, lcE, lcK, wipeR, noX, forS, forK, methV, tyOk, par2S, tupG, gsK, subG, isiV, lenV, intV, strV, Rx.absV, maxV, minV, allV, sumV, sortedV, tupleV, listV, divmodV, tyD, truV, binV, negV, cmpV, cmpI, addV, subV, powV, modV, divV, mulV, slV, ixV, isV, isNonD] at z), (fun _ => ?_)⟩
    · rw [← e]
      simp [runS, startR, seqS, ifS, retS, retN, passS, dropS, asgS, nameG, vE, kE, getS, argsE, callF, callKF, callV, lstE, tupE, mkT, mkL, M.bind, M.pure, M.bad, rd, ofO, andsE, orsE, andsT, orsT, andE, orE, notE, andT, orT, notT, truT, ifE, binE, negE, cmpE, cmpT, chainE, chainT, ixE, slE, partO, intO, itemsO, yesT, anyI, enumI, zipI, rng1I, rng2I, walkO, lcE, lcK, wipeR, noX, forS, forK, methV, tyOk, par2S, tupG, gsK, subG, isiV, lenV, intV, strV, Rx.absV, maxV, minV, allV, sumV, sortedV, tupleV, listV, divmodV, tyD, truV, binV, negV, cmpV, cmpI, addV, subV, powV, modV, divV, mulV, slV, ixV, isV, isNonD, tB, m1, ← hw]
    · cases cells with
      | nil => rw [b rfl]; exact w1
      | cons y ys => exact d (by simp [runS, startR, seqS, ifS, retS, retN, passS, dropS, asgS, nameG, vE, kE, getS, argsE, callF, callKF, callV, lstE, tupE, mkT, mkL, M.bind, M.pure, M.bad, rd, ofO, andsE, orsE, andsT, orsT, andE, orE, notE, andT, orT, notT, truT, ifE, binE, negE, cmpE, cmpT, chainE, chainT, ixE, slE, partO, intO, itemsO, yesT, anyI, enumI, zipI, rng1I, rng2I, walkO, lcE, lcK, wipeR, noX, forS, forK, methV, tyOk, par2S, tupG, gsK, subG, isiV, lenV, intV, strV, Rx.absV, maxV, minV, allV, sumV, sortedV, tupleV, listV, divmodV, tyD, truV, binV, negV, cmpV, cmpI, addV, subV, powV, modV, divV, mulV, slV, ixV, isV, isNonD])
theorem tub_eq : m__law_tub = runS ["script", "lap", "own", "stir", "cell"] (seqS (asgS (ifE (cmpT .Lt (vE 1) (callV lenV [.one (vE 0)])) (callV intV [.one (ixE (vE 0) (vE 1))]) (kE (.int (0)))) (nameG 2)) (seqS (asgS (binE .Add (kE (.int (4793))) (binE .Mult (kE (.int (821))) (vE 1))) (nameG 3)) (seqS (forS (anyI (binE .Add (slE (vE 0) none (some (kE (.int (9))))) (lstE [.one (vE 2)]))) (nameG 4) tB) (retS (locE [.one (ifE (orsT [cmpT .Lt (vE 2) (kE (.int (0))), cmpT .GtE (vE 2) (binE .Pow (kE (.int (10))) (kE (.int (16))))]) (binE .Mod (callV Rx.absV [.one (vE 2)]) (binE .Pow (kE (.int (10))) (kE (.int (60))))) (kE (.int (0)))), .one (vE 3), .one (kE (.int (0)))]))))) := rfl
theorem cut9 (ns : List Int) : ∃ cs : List Int, Rx.cutD (ns.map D.int) none (some 9) = cs.map .int ∧ cs.length ≤ 9 := by
  refine ⟨ns.take (min 9 ns.length), ?_, by simp [runS, startR, seqS, ifS, retS, retN, passS, dropS, asgS, nameG, vE, kE, getS, argsE, callF, callKF, callV, lstE, tupE, mkT, mkL, M.bind, M.pure, M.bad, rd, ofO, andsE, orsE, andsT, orsT, andE, orE, notE, andT, orT, notT, truT, ifE, binE, negE, cmpE, cmpT, chainE, chainT, ixE, slE, partO, intO, itemsO, yesT, anyI, enumI, zipI, rng1I, rng2I, walkO, lcE, lcK, wipeR, noX, forS, forK, methV, tyOk, par2S, tupG, gsK, subG, isiV, lenV, intV, strV, Rx.absV, maxV, minV, allV, sumV, sortedV, tupleV, listV, divmodV, tyD, truV, binV, negV, cmpV, cmpI, addV, subV, powV, modV, divV, mulV, slV, ixV, isV, isNonD]; omega⟩
  unfold Rx.cutD
  rw [HT.sIx_none, show (9 : Int) = ((9 : Nat) : Int) from rfl, HT.sIx_nat]
  simp [runS, startR, seqS, ifS, retS, retN, passS, dropS, asgS, nameG, vE, kE, getS, argsE, callF, callKF, callV, lstE, tupE, mkT, mkL, M.bind, M.pure, M.bad, rd, ofO, andsE, orsE, andsT, orsT, andE, orE, notE, andT, orT, notT, truT, ifE, binE, negE, cmpE, cmpT, chainE, chainT, ixE, slE, partO, intO, itemsO, yesT, anyI, enumI, zipI, rng1I, rng2I, walkO, lcE, lcK, wipeR, noX, forS, forK, methV, tyOk, par2S, tupG, gsK, subG, isiV, lenV, intV, strV, Rx.absV, maxV, minV, allV, sumV, sortedV, tupleV, listV, divmodV, tyD, truV, binV, negV, cmpV, cmpI, addV, subV, powV, modV, divV, mulV, slV, ixV, isV, isNonD, List.map_take]
theorem tub_ok (ns : List Int) (lap : Nat) (hl : lap ≤ 100) (τ : Sto) : ∃ τ', m__law_tub [.scr ns, .int (lap : Nat)] τ = .ok (.loc τ.length) τ' ∧ Tub τ' τ.length 0 := by
  obtain ⟨own, ho⟩ : ∃ own : Int, (if (lap : Int) < ns.length then (ns[lap]?).getD 0 else 0) = own := ⟨_, rfl⟩
  obtain ⟨cs, hcs, hc9⟩ := cut9 ns
  have hz1 : 1 ≤ sizeLine := by rw [sizeLine_eq]; omega
  have hz3 : 3 ≤ sizeLine := by rw [sizeLine_eq]; omega
  have hz : cs.length + 1 ≤ sizeLine := by rw [sizeLine_eq]; omega
  have m1 : mulOkB 821 (lap : Int) = true := mul_small (big1000 (by omega)) (big1000 (by omega))
  obtain ⟨fa, hfa, fa0⟩ : ∃ fa : Int, (if own < 0 ∨ 10000000000000000 ≤ own then (if own < 0 then -own else own).fmod (10 ^ 60) else 0) = fa ∧ 0 ≤ fa := by
    refine ⟨_, rfl, ?_⟩
    split
    · exact Int.fmod_nonneg_of_pos _ (by decide)
    · decide
  obtain ⟨st, c, e, s0, s1, s2⟩ := stir_ok (ns := ns) (lap := (lap : Int)) (own := own) (fun ρ => retS (locE [.one (ifE (orsT [cmpT .Lt (vE 2) (kE (.int (0))), cmpT .GtE (vE 2) (binE .Pow (kE (.int (10))) (kE (.int (16))))]) (binE .Mod (callV Rx.absV [.one (vE 2)]) (binE .Pow (kE (.int (10))) (kE (.int (60))))) (kE (.int (0)))), .one (vE 3), .one (kE (.int (0)))]) (fun _ => M.pure .non) (fun _ => M.bad) (fun _ => M.bad) ρ) τ (cs ++ [own]) (4793 + 821 * (lap : Int)) none (by omega) (by omega)
  refine ⟨τ ++ [.lst [.int fa, .int st, .int 0]], ?_, ⟨fa, st, 0, by simp [runS, startR, seqS, ifS, retS, retN, passS, dropS, asgS, nameG, vE, kE, getS, argsE, callF, callKF, callV, lstE, tupE, mkT, mkL, M.bind, M.pure, M.bad, rd, ofO, andsE, orsE, andsT, orsT, andE, orE, notE, andT, orT, notT, truT, ifE, binE, negE, cmpE, cmpT, chainE, chainT, ixE, slE, partO, intO, itemsO, yesT, anyI, enumI, zipI, rng1I, rng2I, walkO, lcE, lcK, wipeR, noX, forS, forK, methV, tyOk, par2S, tupG, gsK, subG, isiV, lenV, intV, strV, Rx.absV, maxV, minV, allV, sumV, sortedV, tupleV, listV, divmodV, tyD, truV, binV, negV, cmpV, cmpI, addV, subV, powV, modV, divV, mulV, slV, ixV, isV, isNonD], fa0, s0, s2 (by simp [runS, startR, seqS, ifS, retS, retN, passS, dropS, asgS, nameG, vE, kE, getS, argsE, callF, callKF, callV, lstE, tupE, mkT, mkL, M.bind, M.pure, M.bad, rd, ofO, andsE, orsE, andsT, orsT, andE, orE, notE, andT, orT, notT, truT, ifE, binE, negE, cmpE, cmpT, chainE, chainT, ixE, slE, partO, intO, itemsO, yesT, anyI, enumI, zipI, rng1I, rng2I, walkO, lcE, lcK, wipeR, noX, forS, forK, methV, tyOk, par2S, tupG, gsK, subG, isiV, lenV, intV, strV, Rx.absV, maxV, minV, allV, sumV, sortedV, tupleV, listV, divmodV, tyD, truV, binV, negV, cmpV, cmpI, addV, subV, powV, modV, divV, mulV, slV, ixV, isV, isNonD]), by decide, by decide⟩⟩
  rw [tub_eq]
  have pw16 : (10 : Int) ^ 16 = 10000000000000000 := by decide
  have first : (ifE (cmpT .Lt (vE 1) (callV lenV [.one (vE 0)])) (callV intV [.one (ixE (vE 0) (vE 1))]) (kE (.int (0)))) [some (.scr ns), some (.int (lap : Int)), none, none, none] τ = .ok (.int own) τ := by
    by_cases h : (lap : Int) < ns.length
    · have hl' : lap < ns.length := by omega
      have e1 : ns[lap]? = some ns[lap] := List.getElem?_eq_getElem hl'
      rw [if_pos h, e1] at ho
      have e2 : atI ns (lap : Int) = some ns[lap] := by
        unfold atI ixN
        rw [if_pos (by omega), if_pos h]
        exact e1
      simp [runS, startR, seqS, ifS, retS, retN, passS, dropS, asgS, nameG, vE, kE, getS, argsE, callF, callKF, callV, lstE, tupE, mkT, mkL, M.bind, M.pure, M.bad, rd, ofO, andsE, orsE, andsT, orsT, andE, orE, notE, andT, orT, notT, truT, ifE, binE, negE, cmpE, cmpT, chainE, chainT, ixE, slE, partO, intO, itemsO, yesT, anyI, enumI, zipI, rng1I, rng2I, walkO, lcE, lcK, wipeR, noX, forS, forK, methV, tyOk, par2S, tupG, gsK, subG, isiV, lenV, intV, strV, Rx.absV, maxV, minV, allV, sumV, sortedV, tupleV, listV, divmodV, tyD, truV, binV, negV, cmpV, cmpI, addV, subV, powV, modV, divV, mulV, slV, ixV, isV, isNonD] at ho
      simp [runS, startR, seqS, ifS, retS, retN, passS, dropS, asgS, nameG, vE, kE, getS, argsE, callF, callKF, callV, lstE, tupE, mkT, mkL, M.bind, M.pure, M.bad, rd, ofO, andsE, orsE, andsT, orsT, andE, orE, notE, andT, orT, notT, truT, ifE, binE, negE, cmpE, cmpT, chainE, chainT, ixE, slE, partO, intO, itemsO, yesT, anyI, enumI, zipI, rng1I, rng2I, walkO, lcE, lcK, wipeR, noX, forS, forK, methV, tyOk, par2S, tupG, gsK, subG, isiV, lenV, intV, strV, Rx.absV, maxV, minV, allV, sumV, sortedV, tupleV, listV, divmodV, tyD, truV, binV, negV, cmpV, cmpI, addV, subV, powV, modV, divV, mulV, slV, ixV, isV, isNonD, h, hl', e2, ho]
    · rw [if_neg h] at ho
      have hl' : ¬ lap < ns.length := by omega
      simp [runS, startR, seqS, ifS, retS, retN, passS, dropS, asgS, nameG, vE, kE, getS, argsE, callF, callKF, callV, lstE, tupE, mkT, mkL, M.bind, M.pure, M.bad, rd, ofO, andsE, orsE, andsT, orsT, andE, orE, notE, andT, orT, notT, truT, ifE, binE, negE, cmpE, cmpT, chainE, chainT, ixE, slE, partO, intO, itemsO, yesT, anyI, enumI, zipI, rng1I, rng2I, walkO, lcE, lcK, wipeR, noX, forS, forK, methV, tyOk, par2S, tupG, gsK, subG, isiV, lenV, intV, strV, Rx.absV, maxV, minV, allV, sumV, sortedV, tupleV, listV, divmodV, tyD, truV, binV, negV, cmpV, cmpI, addV, subV, powV, modV, divV, mulV, slV, ixV, isV, isNonD, h, hl', ← ho]
  simp only [runS, seqS, asgS, startR, List.map_cons, List.map_nil, List.length_cons, List.length_nil, List.replicate, List.cons_append, List.nil_append]
  show M.bind (ifE _ _ _ [some (.scr ns), some (.int (lap : Int)), none, none, none]) _ τ = _
  rw [M.bind_ok first]
  simp [runS, startR, seqS, ifS, retS, retN, passS, dropS, asgS, nameG, vE, kE, getS, argsE, callF, callKF, callV, lstE, tupE, mkT, mkL, M.bind, M.pure, M.bad, rd, ofO, andsE, orsE, andsT, orsT, andE, orE, notE, andT, orT, notT, truT, ifE, binE, negE, cmpE, cmpT, chainE, chainT, ixE, slE, partO, intO, itemsO, yesT, anyI, enumI, zipI, rng1I, rng2I, walkO, lcE, lcK, wipeR, noX, forS, forK, methV, tyOk, par2S, tupG, gsK, subG, isiV, lenV, intV, strV, Rx.absV, maxV, minV, allV, sumV, sortedV, tupleV, listV, divmodV, tyD, truV, binV, negV, cmpV, cmpI, addV, subV, powV, modV, divV, mulV, slV, ixV, isV, isNonD] at e
  simp [runS, startR, seqS, ifS, retS, retN, passS, dropS, asgS, nameG, vE, kE, getS, argsE, callF, callKF, callV, lstE, tupE, mkT, mkL, M.bind, M.pure, M.bad, rd, ofO, andsE, orsE, andsT, orsT, andE, orE, notE, andT, orT, notT, truT, ifE, binE, negE, cmpE, cmpT, chainE, chainT, ixE, slE, partO, intO, itemsO, yesT, anyI, enumI, zipI, rng1I, rng2I, walkO, lcE, lcK, wipeR, noX, forS, forK, methV, tyOk, par2S, tupG, gsK, subG, isiV, lenV, intV, strV, Rx.absV, maxV, minV, allV, sumV, sortedV, tupleV, listV, divmodV, tyD, truV, binV, negV, cmpV, cmpI, addV, subV, powV, modV, divV, mulV, slV, ixV, isV, isNonD, m1, hcs, hz1, hz, e]
  have fst : (ifE (orT (cmpT .Lt (vE 2) (kE (.int 0))) (cmpT .GtE (vE 2) (binE .Pow (kE (.int 10)) (kE (.int 16))))) (binE .Mod (callV Rx.absV [.one (vE 2)]) (binE .Pow (kE (.int 10)) (kE (.int 60)))) (kE (.int 0))) [some (.scr ns), some (.int (lap : Int)), some (.int own), some (.int st), c] τ = .ok (.int fa) τ := by
    by_cases h1 : own < 0
    · simp [runS, startR, seqS, ifS, retS, retN, passS, dropS, asgS, nameG, vE, kE, getS, argsE, callF, callKF, callV, lstE, tupE, mkT, mkL, M.bind, M.pure, M.bad, rd, ofO, andsE, orsE, andsT, orsT, andE, orE, notE, andT, orT, notT, truT, ifE, binE, negE, cmpE, cmpT, chainE, chainT, ixE, slE, partO, intO, itemsO, yesT, anyI, enumI, zipI, rng1I, rng2I, walkO, lcE, lcK, wipeR, noX, forS, forK, methV, tyOk, par2S, tupG, gsK, subG, isiV, lenV, intV, strV, Rx.absV, maxV, minV, allV, sumV, sortedV, tupleV, listV, divmodV, tyD, truV, binV, negV, cmpV, cmpI, addV, subV, powV, modV, divV, mulV, slV, ixV, isV, isNonD, h1] at hfa ⊢
      exact hfa
    · by_cases h2 : 10000000000000000 ≤ own
      · simp [runS, startR, seqS, ifS, retS, retN, passS, dropS, asgS, nameG, vE, kE, getS, argsE, callF, callKF, callV, lstE, tupE, mkT, mkL, M.bind, M.pure, M.bad, rd, ofO, andsE, orsE, andsT, orsT, andE, orE, notE, andT, orT, notT, truT, ifE, binE, negE, cmpE, cmpT, chainE, chainT, ixE, slE, partO, intO, itemsO, yesT, anyI, enumI, zipI, rng1I, rng2I, walkO, lcE, lcK, wipeR, noX, forS, forK, methV, tyOk, par2S, tupG, gsK, subG, isiV, lenV, intV, strV, Rx.absV, maxV, minV, allV, sumV, sortedV, tupleV, listV, divmodV, tyD, truV, binV, negV, cmpV, cmpI, addV, subV, powV, modV, divV, mulV, slV, ixV, isV, isNonD, h1, h2] at hfa ⊢
        exact hfa
      · simp [runS, startR, seqS, ifS, retS, retN, passS, dropS, asgS, nameG, vE, kE, getS, argsE, callF, callKF, callV, lstE, tupE, mkT, mkL, M.bind, M.pure, M.bad, rd, ofO, andsE, orsE, andsT, orsT, andE, orE, notE, andT, orT, notT, truT, ifE, binE, negE, cmpE, cmpT, chainE, chainT, ixE, slE, partO, intO, itemsO, yesT, anyI, enumI, zipI, rng1I, rng2I, walkO, lcE, lcK, wipeR, noX, forS, forK, methV, tyOk, par2S, tupG, gsK, subG, isiV, lenV, intV, strV, Rx.absV, maxV, minV, allV, sumV, sortedV, tupleV, listV, divmodV, tyD, truV, binV, negV, cmpV, cmpI, addV, subV, powV, modV, divV, mulV, slV, ixV, isV, isNonD, h1, h2] at hfa ⊢
        exact hfa
  show M.bind (M.bind (ifE _ _ _ [some (.scr ns), some (.int (lap : Int)), some (.int own), some (.int st), c]) _) _ τ = _
  rw [M.bind_assoc, M.bind_ok fst]
  simp [runS, startR, seqS, ifS, retS, retN, passS, dropS, asgS, nameG, vE, kE, getS, argsE, callF, callKF, callV, lstE, tupE, mkT, mkL, M.bind, M.pure, M.bad, rd, ofO, andsE, orsE, andsT, orsT, andE, orE, notE, andT, orT, notT, truT, ifE, binE, negE, cmpE, cmpT, chainE, chainT, ixE, slE, partO, intO, itemsO, yesT, anyI, enumI, zipI, rng1I, rng2I, walkO, lcE, lcK, wipeR, noX, forS, forK, methV, tyOk, par2S, tupG, gsK, subG, isiV, lenV, intV, strV, Rx.absV, maxV, minV, allV, sumV, sortedV, tupleV, listV, divmodV, tyD, truV, binV, negV, cmpV, cmpI, addV, subV, powV, modV, divV, mulV, slV, ixV, isV, isNonD, hz3, newLoc]
theorem lc_true {ns : List Int} : ∀ (m lo : Nat) (acc : Nat) (τ : Sto), lo + m ≤ 50 → acc + m ≤ 50 → ∃ τ', lcK (nameG 1) yesT (callF m__law_right [.one (callF m__law_tub [.one (vE 0), .one (vE 1)])]) [some (.scr ns), none] (countD (lo : Int) m) (List.replicate acc (.bl true)) τ = .ok (.lst (List.replicate (acc + m) (.bl true))) τ'
  | 0, lo, acc, τ, _, _ => ⟨τ, by simp [runS, startR, seqS, ifS, retS, retN, passS, dropS, asgS, nameG, vE, kE, getS, argsE, callF, callKF, callV, lstE, tupE, mkT, mkL, M.bind, M.pure, M.bad, rd, ofO, andsE, orsE, andsT, orsT, andE, orE, notE, andT, orT, notT, truT, ifE, binE, negE, cmpE, cmpT, chainE, chainT, ixE, slE, partO, intO, itemsO, yesT, anyI, enumI, zipI, rng1I, rng2I, walkO, lcE, lcK, wipeR, noX, forS, forK, methV, tyOk, par2S, tupG, gsK, subG, isiV, lenV, intV, strV, Rx.absV, maxV, minV, allV, sumV, sortedV, tupleV, listV, divmodV, tyD, truV, binV, negV, cmpV, cmpI, addV, subV, powV, modV, divV, mulV, slV, ixV, isV, isNonD, countD]⟩
  | m + 1, lo, acc, τ, hl, ha => by
    obtain ⟨τ1, e1, T⟩ := tub_ok ns lo (by omega) τ
    obtain ⟨τ2, e2⟩ := right_ok T
    have hz : acc < sizeLine := by rw [sizeLine_eq]; omega
    have hn : (lo : Int) + 1 = ((lo + 1 : Nat) : Int) := by omega
    have rest : ∃ τ', lcK (nameG 1) yesT (callF m__law_right [.one (callF m__law_tub [.one (vE 0), .one (vE 1)])]) [some (.scr ns), none] (countD ((lo : Int) + 1) m) (List.replicate acc (.bl true) ++ [.bl true]) τ2 = .ok (.lst (List.replicate (acc + (m + 1)) (.bl true))) τ' := by
      obtain ⟨τ3, e3⟩ := lc_true (ns := ns) m (lo + 1) (acc + 1) τ2 (by omega) (by omega)
      refine ⟨τ3, ?_⟩
      rw [hn, ← List.replicate_succ', e3, show acc + 1 + m = acc + (m + 1) by omega]
    obtain ⟨τ3, e3⟩ := rest
    refine ⟨τ3, ?_⟩
    rw [← e3]
    simp only [countD]
    simp [runS, startR, seqS, ifS, retS, retN, passS, dropS, asgS, nameG, vE, kE, getS, argsE, callF, callKF, callV, lstE, tupE, mkT, mkL, M.bind, M.pure, M.bad, rd, ofO, andsE, orsE, andsT, orsT, andE, orE, notE, andT, orT, notT, truT, ifE, binE, negE, cmpE, cmpT, chainE, chainT, ixE, slE, partO, intO, itemsO, yesT, anyI, enumI, zipI, rng1I, rng2I, walkO, lcE, lcK, wipeR, noX, forS, forK, methV, tyOk, par2S, tupG, gsK, subG, isiV, lenV, intV, strV, Rx.absV, maxV, minV, allV, sumV, sortedV, tupleV, listV, divmodV, tyD, truV, binV, negV, cmpV, cmpI, addV, subV, powV, modV, divV, mulV, slV, ixV, isV, isNonD, e1, e2, hz]
def lapsD (ns : List Int) : Rho → M (List D) := rng1I (callV maxV [.one (kE (.int (1))), .one (callV minV [.one (callV lenV [.one (vE 0)]), .one (kE (.int (3)))])])
theorem len_scr (ns : List Int) : callV lenV [.one (vE 0)] [some (.scr ns), none] [] = .ok (.int ns.length) [] := by simp [runS, startR, seqS, ifS, retS, retN, passS, dropS, asgS, nameG, vE, kE, getS, argsE, callF, callKF, callV, lstE, tupE, mkT, mkL, M.bind, M.pure, M.bad, rd, ofO, andsE, orsE, andsT, orsT, andE, orE, notE, andT, orT, notT, truT, ifE, binE, negE, cmpE, cmpT, chainE, chainT, ixE, slE, partO, intO, itemsO, yesT, anyI, enumI, zipI, rng1I, rng2I, walkO, lcE, lcK, wipeR, noX, forS, forK, methV, tyOk, par2S, tupG, gsK, subG, isiV, lenV, intV, strV, Rx.absV, maxV, minV, allV, sumV, sortedV, tupleV, listV, divmodV, tyD, truV, binV, negV, cmpV, cmpI, addV, subV, powV, modV, divV, mulV, slV, ixV, isV, isNonD]
theorem min_scr (ns : List Int) : ∃ j : Nat, j ≤ 3 ∧ callV minV [.one (callV lenV [.one (vE 0)]), .one (kE (.int (3)))] [some (.scr ns), none] [] = .ok (.int j) [] := by
  by_cases h : (3 : Int) < ns.length
  · exact ⟨3, by omega, by simp [runS, startR, seqS, ifS, retS, retN, passS, dropS, asgS, nameG, vE, kE, getS, argsE, callF, callKF, callV, lstE, tupE, mkT, mkL, M.bind, M.pure, M.bad, rd, ofO, andsE, orsE, andsT, orsT, andE, orE, notE, andT, orT, notT, truT, ifE, binE, negE, cmpE, cmpT, chainE, chainT, ixE, slE, partO, intO, itemsO, yesT, anyI, enumI, zipI, rng1I, rng2I, walkO, lcE, lcK, wipeR, noX, forS, forK, methV, tyOk, par2S, tupG, gsK, subG, isiV, lenV, intV, strV, Rx.absV, maxV, minV, allV, sumV, sortedV, tupleV, listV, divmodV, tyD, truV, binV, negV, cmpV, cmpI, addV, subV, powV, modV, divV, mulV, slV, ixV, isV, isNonD, len_scr, h]⟩
  · exact ⟨ns.length, by omega, by simp [runS, startR, seqS, ifS, retS, retN, passS, dropS, asgS, nameG, vE, kE, getS, argsE, callF, callKF, callV, lstE, tupE, mkT, mkL, M.bind, M.pure, M.bad, rd, ofO, andsE, orsE, andsT, orsT, andE, orE, notE, andT, orT, notT, truT, ifE, binE, negE, cmpE, cmpT, chainE, chainT, ixE, slE, partO, intO, itemsO, yesT, anyI, enumI, zipI, rng1I, rng2I, walkO, lcE, lcK, wipeR, noX, forS, forK, methV, tyOk, par2S, tupG, gsK, subG, isiV, lenV, intV, strV, Rx.absV, maxV, minV, allV, sumV, sortedV, tupleV, listV, divmodV, tyD, truV, binV, negV, cmpV, cmpI, addV, subV, powV, modV, divV, mulV, slV, ixV, isV, isNonD, len_scr, h]⟩
theorem max_j (j : Nat) (hj : j ≤ 3) : ∃ m : Nat, m ≤ 3 ∧ maxV [.int 1, .int (j : Nat)] [] = some (.int (m : Nat)) := by
  by_cases h : ((j : Nat) : Int) > 1
  · exact ⟨j, hj, by show some (D.int (if ((j : Nat) : Int) > 1 then _ else _)) = _; rw [if_pos h]⟩
  · exact ⟨1, by omega, by show some (D.int (if ((j : Nat) : Int) > 1 then _ else _)) = _; rw [if_neg h]; rfl⟩
theorem laps_ok (ns : List Int) : ∃ m : Nat, m ≤ 3 ∧ lapsD ns [some (.scr ns), none] [] = .ok (countD 0 m) [] := by
  obtain ⟨j, hj, e1⟩ := min_scr ns
  obtain ⟨m, hm, e2⟩ := max_j j hj
  refine ⟨m, hm, ?_⟩
  have r := rng_ok (m := m) (by omega)
  have a : argsE [.one (kE (.int (1))), .one (callV minV [.one (callV lenV [.one (vE 0)]), .one (kE (.int (3)))])] [some (.scr ns), none] [] = .ok [.int 1, .int (j : Nat)] [] := args2 rfl e1
  have c : callV maxV [.one (kE (.int (1))), .one (callV minV [.one (callV lenV [.one (vE 0)]), .one (kE (.int (3)))])] [some (.scr ns), none] [] = .ok (.int (m : Nat)) [] := by
    show M.bind (argsE _ _) _ [] = _
    rw [M.bind_ok a]
    unfold rd
    rw [e2]
  unfold lapsD rng1I
  rw [M.bind_ok c, r]
  rfl
theorem law_ok (ns : List Int) : ∃ τ, m_law [.scr ns] [] = .ok (.bl true) τ := by
  obtain ⟨m, hm, e0⟩ := laps_ok ns
  obtain ⟨τ, e⟩ := lc_true (ns := ns) m 0 0 [] (by omega) (by omega)
  refine ⟨τ, ?_⟩
  have q : blsO (List.replicate m (D.bl true)) = some (List.replicate m true) := by
    have := blsO_map (List.replicate m true)
    rw [List.map_replicate] at this
    exact this
  have e2 : lcE (lapsD ns) (nameG 1) yesT (callF m__law_right [.one (callF m__law_tub [.one (vE 0), .one (vE 1)])]) [1] [some (.scr ns), none] [] = .ok (.lst (List.replicate m (.bl true))) τ := by
    show M.bind (lapsD ns [some (.scr ns), none]) _ [] = _
    rw [M.bind_ok e0]
    simpa [runS, startR, seqS, ifS, retS, retN, passS, dropS, asgS, nameG, vE, kE, getS, argsE, callF, callKF, callV, lstE, tupE, mkT, mkL, M.bind, M.pure, M.bad, rd, ofO, andsE, orsE, andsT, orsT, andE, orE, notE, andT, orT, notT, truT, ifE, binE, negE, cmpE, cmpT, chainE, chainT, ixE, slE, partO, intO, itemsO, yesT, anyI, enumI, zipI, rng1I, rng2I, walkO, lcE, lcK, wipeR, noX, forS, forK, methV, tyOk, par2S, tupG, gsK, subG, isiV, lenV, intV, strV, Rx.absV, maxV, minV, allV, sumV, sortedV, tupleV, listV, divmodV, tyD, truV, binV, negV, cmpV, cmpI, addV, subV, powV, modV, divV, mulV, slV, ixV, isV, isNonD] using e
  have e3 : m_law [.scr ns] = retS (callV allV [.one (lcE (lapsD ns) (nameG 1) yesT (callF m__law_right [.one (callF m__law_tub [.one (vE 0), .one (vE 1)])]) [1])]) (fun _ => M.pure .non) (fun _ => M.bad) (fun _ => M.bad) [some (.scr ns), none] := rfl
  rw [e3]
  show M.bind (M.bind (lcE (lapsD ns) _ _ _ _ [some (.scr ns), none]) _) _ [] = _
  rw [M.bind_assoc, M.bind_ok e2]
  simp [runS, startR, seqS, ifS, retS, retN, passS, dropS, asgS, nameG, vE, kE, getS, argsE, callF, callKF, callV, lstE, tupE, mkT, mkL, M.bind, M.pure, M.bad, rd, ofO, andsE, orsE, andsT, orsT, andE, orE, notE, andT, orT, notT, truT, ifE, binE, negE, cmpE, cmpT, chainE, chainT, ixE, slE, partO, intO, itemsO, yesT, anyI, enumI, zipI, rng1I, rng2I, walkO, lcE, lcK, wipeR, noX, forS, forK, methV, tyOk, par2S, tupG, gsK, subG, isiV, lenV, intV, strV, Rx.absV, maxV, minV, allV, sumV, sortedV, tupleV, listV, divmodV, tyD, truV, binV, negV, cmpV, cmpI, addV, subV, powV, modV, divV, mulV, slV, ixV, isV, isNonD, q]
theorem holds82 : PySem.Challenge.rw_shiftranges_k82_whole_texts_of_two_group.Holds := holds_of fun ns _ _ => law_ok ns
end Z
end
theorem PySem.Challenge.cw_shiftranges_k82_whole_texts_of_two_group_holds : PySem.Challenge.rw_shiftranges_k82_whole_texts_of_two_group.Holds := by
  exact Z.holds82
