import PyProof.Rows.All
import HandS.ForMost
import HandS.Walk
import HandS.Zip
import HandS.Deep
import HandS.Wide
import HandS.WideBits
import HandS.Gcd
import HandS.IsInst
import HandS.Defaults
import HandS.Star
import HandS.Style
import HandS.Nested
import HandS.Flow
import HandS.Conv
import KE.GoesEnum
import KE.GoesMore
import PyProof.ReprRoads
import HandS.Small
import PySem.Challenge.RW_heednets_k12_whole_swings_where_scales_a
import KE.KStateDown
import Lean
import HandS.Ends
import HandS.Head0
import HandS.Head1
import HandS.Head2
import HandS.Head3
import HandS.HeadEnd
import HandS.HeadHook1
import HandS.HeadHook2
import HandS.HeadHook3
import HandS.HeadHook4
import HandS.Lambda
import HandS.EndBits
section
set_option Elab.async false
set_option linter.all false
set_option maxRecDepth 100000
set_option maxHeartbeats 4000000
namespace Hn
open PySem PySem.Spec PyProof.Rows L2 NdefX LamX

/-- data that never change -/
inductive D where
  | non | bl (b : Bool) | int (i : Int) | str (s : Str) | ty (n : String) | tup (ds : List D) | fn (f c : Addr) (q : Str)

mutual
/-- the value v is the datum d in the heap H -/
inductive Rp (K : PySem.W.Frag) (H : Hp) : V → D → Prop
  | non : Rp K H .non .non
  | bl (b : Bool) : Rp K H (.bl b) (.bl b)
  | int (i : Int) : Rp K H (.int i) (.int i)
  | str (s : Str) : Rp K H (.str s) (.str s)
  | ty (n : String) : Rp K H (.ty n) (.ty n)
  | tup {a : Addr} {xs : List V} {ds : List D} (hs : SqT K H a xs) (ha : RpA K H xs ds) : Rp K H (.ref a) (.tup ds)
  | fn (f : Addr) {c : Addr} {q : Str} (h : H c = some (CodeO c q)) : Rp K H (.ref f) (.fn f c q)
inductive RpA (K : PySem.W.Frag) (H : Hp) : List V → List D → Prop
  | nil : RpA K H [] []
  | cons {v : V} {vs : List V} {d : D} {ds : List D} (h : Rp K H v d) (t : RpA K H vs ds) : RpA K H (v :: vs) (d :: ds)
end

/-- tuples stay tuples, code objects stay -/
def TupLe (H H' : Hp) : Prop := (∀ b xs, Rd H b (.tup xs) → Rd H' b (.tup xs)) ∧ ∀ c q, H c = some (CodeO c q) → H' c = some (CodeO c q)
theorem TupLe.refl {H : Hp} : TupLe H H := ⟨fun _ _ h => h, fun _ _ h => h⟩
theorem TupLe.trans {H H1 H2 : Hp} (a : TupLe H H1) (b : TupLe H1 H2) : TupLe H H2 := ⟨fun c xs h => b.1 c xs (a.1 c xs h), fun c q h => b.2 c q (a.2 c q h)⟩
theorem TupLe.sq {K : PySem.W.Frag} {H H' : Hp} (e : TupLe H H') {a : Addr} {xs : List V} (h : SqT K H a xs) : SqT K H' a xs := by
  rcases h with h | h
  · exact .inl (e.1 _ _ h)
  · exact .inr h
section
variable {K : PySem.W.Frag} {H H' : Hp}
mutual
theorem Rp.mono (e : TupLe H H') : ∀ {v : V} {d : D}, Rp K H v d → Rp K H' v d
  | _, _, .non => .non
  | _, _, .bl b => .bl b
  | _, _, .int i => .int i
  | _, _, .str s => .str s
  | _, _, .ty n => .ty n
  | _, _, .fn f h => .fn f (e.2 _ _ h)
  | _, _, .tup hs ha => .tup (e.sq hs) (RpA.mono e ha)
theorem RpA.mono (e : TupLe H H') : ∀ {vs : List V} {ds : List D}, RpA K H vs ds → RpA K H' vs ds
  | _, _, .nil => .nil
  | _, _, .cons h t => .cons (Rp.mono e h) (RpA.mono e t)
end
theorem RpA.length : ∀ {vs : List V} {ds : List D}, RpA K H vs ds → vs.length = ds.length
  | _, _, .nil => rfl
  | _, _, .cons _ t => congrArg (· + 1) t.length
theorem RpA.get : ∀ {vs : List V} {ds : List D} {i : Nat} {d : D}, RpA K H vs ds → ds[i]? = some d → ∃ v, vs[i]? = some v ∧ Rp K H v d
  | _, _, 0, _, .cons h _, e => by simp at e; subst e; exact ⟨_, rfl, h⟩
  | _, _, i + 1, _, .cons _ t, e => by
    obtain ⟨v, h1, h2⟩ := RpA.get (i := i) t (by simpa using e)
    exact ⟨v, by simpa using h1, h2⟩
theorem RpA.getV : ∀ {vs : List V} {ds : List D} {i : Nat} {v : V}, RpA K H vs ds → vs[i]? = some v → ∃ d, ds[i]? = some d ∧ Rp K H v d
  | _, _, 0, _, .cons h _, e => by simp at e; subst e; exact ⟨_, rfl, h⟩
  | _, _, i + 1, _, .cons _ t, e => by
    obtain ⟨v, h1, h2⟩ := RpA.getV (i := i) t (by simpa using e)
    exact ⟨v, by simpa using h1, h2⟩
theorem RpA.append : ∀ {vs ws : List V} {ds es : List D}, RpA K H vs ds → RpA K H ws es → RpA K H (vs ++ ws) (ds ++ es)
  | _, _, _, _, .nil, s => s
  | _, _, _, _, .cons h t, s => .cons h (t.append s)
theorem RpA.set : ∀ {vs : List V} {ds : List D} {v : V} {d : D} (i : Nat), RpA K H vs ds → Rp K H v d → RpA K H (vs.set i v) (ds.set i d)
  | _, _, _, _, _, .nil, _ => .nil
  | _, _, _, _, 0, .cons _ t, h => .cons h t
  | _, _, _, _, i + 1, .cons g t, h => .cons g (RpA.set i t h)
theorem RpA.take : ∀ {vs : List V} {ds : List D} (n : Nat), RpA K H vs ds → RpA K H (vs.take n) (ds.take n)
  | _, _, 0, _ => .nil
  | _, _, _ + 1, .nil => .nil
  | _, _, n + 1, .cons h t => .cons h (RpA.take n t)
theorem RpA.drop : ∀ {vs : List V} {ds : List D} (n : Nat), RpA K H vs ds → RpA K H (vs.drop n) (ds.drop n)
  | _, _, 0, r => r
  | _, _, _ + 1, .nil => .nil
  | _, _, n + 1, .cons _ t => RpA.drop n t
theorem RpA.rep {v : V} {d : D} (h : Rp K H v d) : ∀ n : Nat, RpA K H (List.replicate n v) (List.replicate n d)
  | 0 => .nil
  | n + 1 => .cons h (RpA.rep h n)
theorem RpA.ints : ∀ {vs : List V} {ns : List Int}, RpA K H vs (ns.map D.int) → vs = ns.map V.int
  | _, [], .nil => rfl
  | _, n :: ns, .cons h t => by
    cases h
    rw [RpA.ints t] <;> rfl
theorem RpA.ofInts : ∀ ns : List Int, RpA K H (ns.map V.int) (ns.map D.int)
  | [] => .nil
  | n :: ns => .cons (.int n) (RpA.ofInts ns)
end
end Hn
end

section
set_option Elab.async false
set_option linter.all false
set_option maxRecDepth 100000
set_option maxHeartbeats 4000000
namespace Hn
open PySem PySem.Spec PyProof.Rows L2 NdefX LamX

/-- the well, where there is one: a list of three numbers from 0 on -/
def Wl (mo : Option Addr) (H : Hp) : Prop := ∀ b, mo = some b → ∃ i j k : Int, 0 ≤ i ∧ 0 ≤ j ∧ 0 ≤ k ∧ H b = some (.lst [.int i, .int j, .int k])

/-- what is tracked stays (but for the well, and tables that may grow) -/
structure LeM (T : List NTab) (mo : Option Addr) (H H' : Hp) : Prop where
  keep : ∀ b o, mo ≠ some b → H b = some o → (∀ ps, o ≠ .tbl ps) → H' b = some o
  dom : ∀ b o, H b = some o → ∃ o', H' b = some o'
  tabs : TabsN T H → TabsN T H'
  well : Wl mo H → Wl mo H'
  tup : TupLe H H'
section
variable {K : PySem.W.Frag} {T : List NTab} {mo : Option Addr} {H H1 H2 H' : Hp} {a : Addr} {o : HO} {v : V}
theorem LeM.refl : LeM T mo H H := ⟨fun _ _ _ h _ => h, fun _ o h => ⟨o, h⟩, id, id, .refl⟩
theorem LeM.trans (a : LeM T mo H H1) (b : LeM T mo H1 H2) : LeM T mo H H2 :=
  ⟨fun c o n h z => b.keep c o n (a.keep c o n h z) z, fun c o h => let ⟨o', h'⟩ := a.dom c o h; b.dom c o' h', fun t => b.tabs (a.tabs t), fun t => b.well (a.well t), a.tup.trans b.tup⟩
theorem LeM.fresh (e : LeM T mo H H') (h : H' a = none) : H a = none := by
  cases q : H a with
  | none => rfl
  | some o =>
    obtain ⟨o', h'⟩ := e.dom a o q
    rw [h'] at h
    cases h
theorem Wl.no (w : Wl mo H) (h : H a = none) : mo ≠ some a := fun e => by
  obtain ⟨_, _, _, _, _, _, q⟩ := w a e
  rw [q] at h
  cases h
theorem LeM.same (T : List NTab) (mo : Option Addr) (e : Same H H') : LeM T mo H H' :=
  ⟨fun b o _ h _ => e b o h, fun b o h => ⟨o, e b o h⟩, fun t => t.ext e, fun w b q => by
    obtain ⟨i, j, k, h1, h2, h3, h4⟩ := w b q
    exact ⟨i, j, k, h1, h2, h3, e _ _ h4⟩, fun b xs h => by
    rcases h with h | ⟨u, h⟩
    · exact .inl (e _ _ h)
    · exact .inr ⟨u, e _ _ h⟩, fun c q h => e _ _ h⟩
theorem same_new (h : H a = none) : Same H (upd H a o) := fun b u e => by
  rw [upd_ne (ne_of_none e h)]
  exact e
theorem LeM.new (h : H a = none) : LeM T mo H (upd H a o) := LeM.same T mo (same_new h)
/-- from a callee that changes nothing -/
theorem LeM.up (e : LeM T none H H') : LeM T mo H H' :=
  ⟨fun b o _ h z => e.keep b o (fun z => nomatch z) h z, e.dom, e.tabs, fun w b q => by
    obtain ⟨i, j, k, h1, h2, h3, h4⟩ := w b q
    exact ⟨i, j, k, h1, h2, h3, e.keep b _ (fun z => nomatch z) h4 (fun ps z => nomatch z)⟩, e.tup⟩
theorem tabs_upd {xs ys : List V} (h : H a = some (.lst xs)) (t : TabsN T H) : TabsN T (upd H a (.lst ys)) := fun p hp => by
  obtain ⟨ps, h1, h2, h3⟩ := t p hp
  have n1 : p.1 ≠ a := ne_of h1 h (fun z => nomatch z)
  refine ⟨ps, by rw [upd_ne n1]; exact h1, h2, fun pos cv hc => ?_⟩
  obtain ⟨c, e1, e2⟩ := h3 pos cv hc
  have n2 : c ≠ a := ne_of e2 h (by unfold CodeO; exact fun z => nomatch z)
  exact ⟨c, e1, by rw [upd_ne n2]; exact e2⟩
theorem tabs_updD {xs ys : List (Key × V)} (h : H a = some (.dK xs)) (t : TabsN T H) : TabsN T (upd H a (.dK ys)) := fun p hp => by
  obtain ⟨ps, h1, h2, h3⟩ := t p hp
  have n1 : p.1 ≠ a := ne_of h1 h (fun z => nomatch z)
  refine ⟨ps, by rw [upd_ne n1]; exact h1, h2, fun pos cv hc => ?_⟩
  obtain ⟨c, e1, e2⟩ := h3 pos cv hc
  have n2 : c ≠ a := ne_of e2 h (by unfold CodeO; exact fun z => nomatch z)
  exact ⟨c, e1, by rw [upd_ne n2]; exact e2⟩
theorem tup_upd {u : HO} (h : H a = some o) (n1 : ∀ xs, o ≠ .tup xs) (n2 : ∀ z xs, o ≠ .frz z xs) (n3 : ∀ c q, o ≠ CodeO c q := by intro _ _ z; unfold CodeO at z; cases z) : TupLe H (upd H a u) := ⟨fun b xs e => by
  rcases e with e | ⟨z, e⟩
  · exact .inl (by rw [upd_ne (ne_of e h (fun q => n1 _ q.symm))]; exact e)
  · exact .inr ⟨z, by rw [upd_ne (ne_of e h (fun q => n2 _ _ q.symm))]; exact e⟩, fun c q e => by
  rw [upd_ne (ne_of e h (fun z => n3 _ _ z.symm))]
  exact e⟩
/-- a list that H0 does not know is changed -/
theorem LeM.mut {H0 : Hp} {xs ys : List V} (e : LeM T mo H0 H) (h0 : H0 a = none) (hm : mo ≠ some a) (h : H a = some (.lst xs)) : LeM T mo H0 (upd H a (.lst ys)) :=
  ⟨fun b u n hb z => by rw [upd_ne (ne_of_none hb h0)]; exact e.keep b u n hb z, fun b u hb => by rw [upd_ne (ne_of_none hb h0)]; exact e.dom b u hb, fun t => tabs_upd h (e.tabs t), fun w b q => by
    obtain ⟨i, j, k, h1, h2, h3, h4⟩ := e.well w b q
    exact ⟨i, j, k, h1, h2, h3, by rw [upd_ne (fun z => hm (by rw [← z]; exact q))]; exact h4⟩, e.tup.trans (tup_upd h (fun _ z => nomatch z) (fun _ _ z => nomatch z))⟩
theorem LeM.mutD {H0 : Hp} {xs ys : List (Key × V)} (e : LeM T mo H0 H) (h0 : H0 a = none) (hm : mo ≠ some a) (h : H a = some (.dK xs)) : LeM T mo H0 (upd H a (.dK ys)) :=
  ⟨fun b u n hb z => by rw [upd_ne (ne_of_none hb h0)]; exact e.keep b u n hb z, fun b u hb => by rw [upd_ne (ne_of_none hb h0)]; exact e.dom b u hb, fun t => tabs_updD h (e.tabs t), fun w b q => by
    obtain ⟨i, j, k, h1, h2, h3, h4⟩ := e.well w b q
    exact ⟨i, j, k, h1, h2, h3, by rw [upd_ne (fun z => hm (by rw [← z]; exact q))]; exact h4⟩, e.tup.trans (tup_upd h (fun _ z => nomatch z) (fun _ _ z => nomatch z))⟩
theorem LeM.lst {xs : List V} (e : LeM T mo H H') (n : mo ≠ some a) (h : H a = some (.lst xs)) : H' a = some (.lst xs) := e.keep a _ n h (fun _ z => nomatch z)
theorem LeM.sqL {xs : List V} (e : LeM T mo H H') (n : mo ≠ some a) (h : SqL K H a xs) : SqL K H' a xs := by
  rcases h with (h | ⟨u, h⟩) | h
  · exact .inl (.inl (e.keep a _ n h (fun _ z => nomatch z)))
  · exact .inl (.inr ⟨u, e.keep a _ n h (fun _ z => nomatch z)⟩)
  · exact .inr h
end

/-- kinds of things: a datum; a list that is read; a new list; a dict with int keys; a range; the well -/
inductive Kd where
  | im (d : D) | ls (ds : List D) | fl (ds : List D) | dc (kvs : List (Int × D)) | rg (lo hi : Int) | wl | cl (f c : Addr) (q : Str) (u : V) (k : Kd)

def DcR (K : PySem.W.Frag) (H : Hp) : List (Key × V) → List (Int × D) → Prop := Paired fun p q => p.1 = Sum.inl q.1 ∧ Rp K H p.2 q.2
theorem DcR.mono {K : PySem.W.Frag} {H H' : Hp} (e : TupLe H H') {xs : List (Key × V)} {kvs : List (Int × D)} (h : DcR K H xs kvs) : DcR K H' xs kvs := Paired.mapP h fun _ _ q => ⟨q.1, q.2.mono e⟩

/-- v, come out of the heap H in the heap H', is of the kind -/
def Kr (K : PySem.W.Frag) (mo : Option Addr) (H H' : Hp) (v : V) : Kd → Prop
  | .im d => Rp K H' v d
  | .ls ds => ∃ a xs, v = .ref a ∧ mo ≠ some a ∧ SqL K H' a xs ∧ RpA K H' xs ds
  | .fl ds => ∃ a xs, v = .ref a ∧ H a = none ∧ H' a = some (.lst xs) ∧ RpA K H' xs ds
  | .dc kvs => ∃ a xs, v = .ref a ∧ mo ≠ some a ∧ H' a = some (.dK xs) ∧ DcR K H' xs kvs
  | .rg lo hi => ∃ a, v = .ref a ∧ mo ≠ some a ∧ H' a = some (.rng lo hi)
  | .wl => ∃ a, v = .ref a ∧ mo = some a
  | .cl f c q u k => v = .ref f ∧ H' c = some (CodeO c q) ∧ Kr K mo H H' u k
section
variable {K : PySem.W.Frag} {T : List NTab} {mo : Option Addr} {H H0 H1 H2 H' : Hp} {a : Addr} {o : HO} {v : V} {k : Kd}
/-- later -/
theorem Kr.on (w : Wl mo H) (h : Kr K mo H H1 v k) (e : LeM T mo H1 H2) : Kr K mo H H2 v k := by
  induction k generalizing v with
  | cl f c q u k ih => exact ⟨h.1, e.tup.2 _ _ h.2.1, ih h.2.2⟩
  | im d => exact Rp.mono e.tup h
  | ls ds => obtain ⟨a, xs, h1, h2, h3, h4⟩ := h; exact ⟨a, xs, h1, h2, e.sqL h2 h3, h4.mono e.tup⟩
  | fl ds => obtain ⟨a, xs, h1, h2, h3, h4⟩ := h; exact ⟨a, xs, h1, h2, e.lst (w.no h2) h3, h4.mono e.tup⟩
  | dc kvs => obtain ⟨a, xs, h1, h2, h3, h4⟩ := h; exact ⟨a, xs, h1, h2, e.keep a _ h2 h3 (fun _ z => nomatch z), h4.mono e.tup⟩
  | rg lo hi => obtain ⟨a, h1, h2, h3⟩ := h; exact ⟨a, h1, h2, e.keep a _ h2 h3 (fun _ z => nomatch z)⟩
  | wl => exact h
/-- seen from earlier -/
theorem Kr.back (e : LeM T mo H0 H) (h : Kr K mo H H1 v k) : Kr K mo H0 H1 v k := by
  induction k generalizing v with
  | cl f c q u k ih => exact ⟨h.1, h.2.1, ih h.2.2⟩
  | fl ds => obtain ⟨a, xs, h1, h2, h3, h4⟩ := h; exact ⟨a, xs, h1, e.fresh h2, h3, h4⟩
  | _ => exact h
theorem Kr.ls {ds : List D} (w : Wl mo H) (h : Kr K mo H H1 v (.fl ds)) : Kr K mo H H1 v (.ls ds) := by
  obtain ⟨a, xs, h1, h2, h3, h4⟩ := h
  exact ⟨a, xs, h1, w.no h2, .of h3, h4⟩
/-- the kinds that a call may give back -/
def Kd.ret : Kd → Bool
  | .im _ => true
  | .fl _ => true
  | _ => false
/-- the kinds that a def without a well may be given -/
def Kd.arg : Kd → Bool
  | .im _ => true
  | .ls _ => true
  | .dc _ => true
  | .rg _ _ => true
  | .cl _ _ _ _ k => k.arg
  | _ => false
theorem Kr.up (h : Kr K none H H1 v k) (hk : k.ret = true) : Kr K mo H H1 v k := by
  cases k with
  | im d => exact h
  | fl ds => exact h
  | ls ds => cases hk
  | dc kvs => cases hk
  | rg lo hi => cases hk
  | wl => cases hk
  | cl f c q u k => cases hk
theorem Kr.down (h : Kr K mo H H1 v k) (hk : k.arg = true) : Kr K none H H1 v k := by
  induction k generalizing v with
  | cl f c q u k ih => exact ⟨h.1, h.2.1, ih h.2.2 hk⟩
  | im d => exact h
  | fl ds => exact h
  | ls ds => obtain ⟨a, xs, h1, h2, h3, h4⟩ := h; exact ⟨a, xs, h1, (fun z => nomatch z), h3, h4⟩
  | dc kvs => obtain ⟨a, xs, h1, h2, h3, h4⟩ := h; exact ⟨a, xs, h1, (fun z => nomatch z), h3, h4⟩
  | rg lo hi => obtain ⟨a, h1, h2, h3⟩ := h; exact ⟨a, h1, (fun z => nomatch z), h3⟩
  | wl => cases hk
/-- what does not hang on the first heap -/
theorem Kr.any (h : Kr K mo H H1 v k) (hk : k.arg = true ∨ k = .wl) : Kr K mo H2 H1 v k := by
  induction k generalizing v with
  | fl ds => rcases hk with z | z <;> cases z
  | cl f c q u k ih => exact ⟨h.1, h.2.1, ih h.2.2 (hk.elim .inl fun z => nomatch z)⟩
  | _ => exact h
/-- what stood at the entry stands still -/
theorem Kr.onA (h : Kr K mo H H v k) (hk : k.arg = true ∨ k = .wl) (e : LeM T mo H H1) : Kr K mo H1 H1 v k := by
  induction k generalizing v with
  | im d => exact Rp.mono e.tup h
  | ls ds => obtain ⟨a, xs, q1, q2, q3, q4⟩ := h; exact ⟨a, xs, q1, q2, e.sqL q2 q3, q4.mono e.tup⟩
  | fl ds => rcases hk with z | z <;> cases z
  | dc kvs => obtain ⟨a, xs, q1, q2, q3, q4⟩ := h; exact ⟨a, xs, q1, q2, e.keep a _ q2 q3 (fun _ z => nomatch z), q4.mono e.tup⟩
  | rg lo hi => obtain ⟨a, q1, q2, q3⟩ := h; exact ⟨a, q1, q2, e.keep a _ q2 q3 (fun _ z => nomatch z)⟩
  | wl => exact h
  | cl f c q u k ih => exact ⟨h.1, e.tup.2 _ _ h.2.1, ih h.2.2 (hk.elim .inl fun z => nomatch z)⟩
end

/-- several -/
def KrA (K : PySem.W.Frag) (mo : Option Addr) (H : Hp) : List V → List Kd → Prop := Paired fun v k => Kr K mo H H v k ∧ (k.arg = true ∨ k = .wl)

/-- what a slot of the def's names holds: nothing that is known; a datum; what stood at the entry; a list made by others; a list, a dict of one's own -/
inductive Slot where
  | none | im (d : D) | par (k : Kd) | ls (ds : List D) | own (ds : List D) | od (kvs : List (Int × D)) | rg (lo hi : Int)
def Slot.isOwn : Slot → Bool
  | .own _ => true
  | .od _ => true
  | _ => false
def SlotOk (K : PySem.W.Frag) (mo : Option Addr) (H0 H : Hp) (o : Option (Option V)) : Slot → Prop
  | .none => True
  | .im d => ∃ v, o = some (some v) ∧ Rp K H v d
  | .par k => ∃ v, o = some (some v) ∧ Kr K mo H0 H0 v k ∧ (k.arg = true ∨ k = .wl)
  | .ls ds => ∃ v, o = some (some v) ∧ Kr K mo H H v (.ls ds)
  | .own ds => ∃ a xs, o = some (some (.ref a)) ∧ H0 a = Option.none ∧ mo ≠ some a ∧ H a = some (.lst xs) ∧ RpA K H xs ds
  | .od kvs => ∃ a xs, o = some (some (.ref a)) ∧ H0 a = Option.none ∧ mo ≠ some a ∧ H a = some (.dK xs) ∧ DcR K H xs kvs
  | .rg lo hi => ∃ v, o = some (some v) ∧ Kr K mo H H v (.rg lo hi)
def OwnAt (Γ : List Slot) (σ : L2.St) (i : Nat) (a : Addr) : Prop := (∃ s, Γ[i]? = some s ∧ s.isOwn = true) ∧ σ[i]? = some (some (.ref a))
structure EnvOk (K : PySem.W.Frag) (T : List NTab) (mo : Option Addr) (H0 H : Hp) (σ : L2.St) (Γ : List Slot) : Prop where
  le : LeM T mo H0 H
  wl : Wl mo H
  tb : TabsN T H
  len : σ.length = Γ.length
  sl : ∀ (i : Nat) (s : Slot), Γ[i]? = some s → SlotOk K mo H0 H σ[i]? s
  dj : ∀ (i j : Nat) (a : Addr), i ≠ j → OwnAt Γ σ i a → OwnAt Γ σ j a → False
section
variable {K : PySem.W.Frag} {T : List NTab} {mo : Option Addr} {H H0 H1 H2 H' : Hp} {a : Addr} {o : Option (Option V)} {v : V} {k : Kd} {σ : L2.St} {Γ : List Slot} {s : Slot}
theorem SlotOk.on (w0 : Wl mo H0) (h : SlotOk K mo H0 H o s) (e : LeM T mo H H') : SlotOk K mo H0 H' o s := by
  cases s with
  | none => trivial
  | im d => obtain ⟨v, h1, h2⟩ := h; exact ⟨v, h1, h2.mono e.tup⟩
  | par k => exact h
  | ls ds => obtain ⟨v, h1, a, xs, h2, h3, h4, h5⟩ := h; exact ⟨v, h1, a, xs, h2, h3, e.sqL h3 h4, h5.mono e.tup⟩
  | own ds => obtain ⟨a, xs, h1, h2, h3, h4, h5⟩ := h; exact ⟨a, xs, h1, h2, h3, e.lst h3 h4, h5.mono e.tup⟩
  | od kvs => obtain ⟨a, xs, h1, h2, h3, h4, h5⟩ := h; exact ⟨a, xs, h1, h2, h3, e.keep a _ h3 h4 (fun _ z => nomatch z), h5.mono e.tup⟩
  | rg lo hi => obtain ⟨v, h1, a, h2, h3, h4⟩ := h; exact ⟨v, h1, a, h2, h3, e.keep a _ h3 h4 (fun _ z => nomatch z)⟩
theorem SlotOk.on' (h : SlotOk K mo H0 H o s) (e : LeM T mo H H') : SlotOk K mo H0 H' o s := by
  cases s with
  | none => trivial
  | im d => obtain ⟨v, h1, h2⟩ := h; exact ⟨v, h1, h2.mono e.tup⟩
  | par k => exact h
  | ls ds => obtain ⟨v, h1, a, xs, h2, h3, h4, h5⟩ := h; exact ⟨v, h1, a, xs, h2, h3, e.sqL h3 h4, h5.mono e.tup⟩
  | own ds => obtain ⟨a, xs, h1, h2, h3, h4, h5⟩ := h; exact ⟨a, xs, h1, h2, h3, e.lst h3 h4, h5.mono e.tup⟩
  | od kvs => obtain ⟨a, xs, h1, h2, h3, h4, h5⟩ := h; exact ⟨a, xs, h1, h2, h3, e.keep a _ h3 h4 (fun _ z => nomatch z), h5.mono e.tup⟩
  | rg lo hi => obtain ⟨v, h1, a, h2, h3, h4⟩ := h; exact ⟨v, h1, a, h2, h3, e.keep a _ h3 h4 (fun _ z => nomatch z)⟩
theorem EnvOk.on (E : EnvOk K T mo H0 H σ Γ) (e : LeM T mo H H') : EnvOk K T mo H0 H' σ Γ :=
  ⟨E.le.trans e, e.well E.wl, e.tabs E.tb, E.len, fun i s h => (E.sl i s h).on' e, E.dj⟩
/-- what a slot gives when it is read -/
def Slot.rd : Slot → Option Kd
  | .im d => some (.im d)
  | .par k => some k
  | .ls ds => some (.ls ds)
  | .own ds => some (.ls ds)
  | .od kvs => some (.dc kvs)
  | .rg lo hi => some (.rg lo hi)
  | .none => Option.none
theorem EnvOk.rd (E : EnvOk K T mo H0 H σ Γ) {i : Nat} (hs : Γ[i]? = some s) (hk : s.rd = some k) : ∃ v, σ[i]? = some (some v) ∧ Kr K mo H H v k ∧ (k.arg = true ∨ k = .wl) := by
  have h := E.sl i s hs
  cases s with
  | none => cases hk
  | im d => cases hk; obtain ⟨v, h1, h2⟩ := h; exact ⟨v, h1, h2, .inl rfl⟩
  | par k' =>
    cases hk
    obtain ⟨v, h1, h2, h3⟩ := h
    exact ⟨v, h1, h2.onA h3 E.le, h3⟩
  | ls ds => cases hk; obtain ⟨v, h1, h2⟩ := h; exact ⟨v, h1, h2, .inl rfl⟩
  | own ds => cases hk; obtain ⟨a, xs, h1, h2, h3, h4, h5⟩ := h; exact ⟨.ref a, h1, ⟨a, xs, rfl, h3, .of h4, h5⟩, .inl rfl⟩
  | od kvs => cases hk; obtain ⟨a, xs, h1, h2, h3, h4, h5⟩ := h; exact ⟨.ref a, h1, ⟨a, xs, rfl, h3, h4, h5⟩, .inl rfl⟩
  | rg lo hi => cases hk; obtain ⟨v, h1, h2⟩ := h; exact ⟨v, h1, h2, .inl rfl⟩
/-- a slot is stored: a datum -/
theorem EnvOk.setIm (E : EnvOk K T mo H0 H σ Γ) (i : Nat) {d : D} (h : Rp K H v d) : EnvOk K T mo H0 H (σ.set i (some v)) (Γ.set i (.im d)) := by
  refine ⟨E.le, E.wl, E.tb, by simp [E.len], fun j s hj => ?_, fun p q a n h1 h2 => ?_⟩
  · by_cases e : i = j
    · subst e
      have hi : i < Γ.length := by
        have := (List.getElem?_eq_some_iff.mp hj).1
        simpa using this
      rw [List.getElem?_set_self hi] at hj
      cases hj
      exact ⟨v, List.getElem?_set_self (by rw [E.len]; exact hi), h⟩
    · rw [List.getElem?_set_ne e] at hj ⊢
      exact E.sl j s hj
  · have at_ : ∀ p, OwnAt (Γ.set i (.im d)) (σ.set i (some v)) p a → OwnAt Γ σ p a := fun p ⟨⟨s, g1, g2⟩, g3⟩ => by
      by_cases e : i = p
      · subst e
        have hi : i < Γ.length := by
          have := (List.getElem?_eq_some_iff.mp g1).1
          simpa using this
        rw [List.getElem?_set_self hi] at g1
        cases g1
        cases g2
      · rw [List.getElem?_set_ne e] at g1 g3
        exact ⟨⟨s, g1, g2⟩, g3⟩
    exact E.dj p q a n (at_ p h1) (at_ q h2)
/-- any other slot that is not owned -/
theorem EnvOk.setAny (E : EnvOk K T mo H0 H σ Γ) (i : Nat) (o : Option V) (hs : s.isOwn = false) (h : SlotOk K mo H0 H (some o) s) : EnvOk K T mo H0 H (σ.set i o) (Γ.set i s) := by
  refine ⟨E.le, E.wl, E.tb, by simp [E.len], fun j s' hj => ?_, fun p q a n h1 h2 => ?_⟩
  · by_cases e : i = j
    · subst e
      have hi : i < Γ.length := by
        have := (List.getElem?_eq_some_iff.mp hj).1
        simpa using this
      rw [List.getElem?_set_self hi] at hj
      cases hj
      rw [List.getElem?_set_self (by rw [E.len]; exact hi)]
      exact h
    · rw [List.getElem?_set_ne e] at hj ⊢
      exact E.sl j s' hj
  · have at_ : ∀ p, OwnAt (Γ.set i s) (σ.set i o) p a → OwnAt Γ σ p a := fun p ⟨⟨s', g1, g2⟩, g3⟩ => by
      by_cases e : i = p
      · subst e
        have hi : i < Γ.length := by
          have := (List.getElem?_eq_some_iff.mp g1).1
          simpa using this
        rw [List.getElem?_set_self hi] at g1
        cases g1
        rw [hs] at g2
        cases g2
      · rw [List.getElem?_set_ne e] at g1 g3
        exact ⟨⟨s', g1, g2⟩, g3⟩
    exact E.dj p q a n (at_ p h1) (at_ q h2)
/-- a new list becomes one's own: H is the heap ahead of it -/
theorem EnvOk.setOwn (E : EnvOk K T mo H0 H σ Γ) (e : LeM T mo H H') (i : Nat) {ds : List D} (h : Kr K mo H H' v (.fl ds)) : EnvOk K T mo H0 H' (σ.set i (some v)) (Γ.set i (.own ds)) := by
  obtain ⟨b, xs, rfl, h1, h2, h3⟩ := h
  have F := E.on e
  have tr : ∀ p a, OwnAt Γ σ p a → a ≠ b := fun p a ⟨⟨s, g1, g2⟩, g3⟩ z => by
    have q := E.sl p s g1
    cases s with
    | own ds =>
      obtain ⟨c, ys, q1, _, _, q4, _⟩ := q
      rw [g3] at q1
      cases q1
      rw [z, h1] at q4
      cases q4
    | od kvs =>
      obtain ⟨c, ys, q1, _, _, q4, _⟩ := q
      rw [g3] at q1
      cases q1
      rw [z, h1] at q4
      cases q4
    | _ => cases g2
  refine ⟨F.le, F.wl, F.tb, by simp [F.len], fun j s' hj => ?_, fun p q a n g1 g2 => ?_⟩
  · by_cases e : i = j
    · subst e
      have hi : i < Γ.length := by
        have := (List.getElem?_eq_some_iff.mp hj).1
        simpa using this
      rw [List.getElem?_set_self hi] at hj
      cases hj
      rw [List.getElem?_set_self (by rw [F.len]; exact hi)]
      exact ⟨b, xs, rfl, E.le.fresh h1, E.wl.no h1, h2, h3⟩
    · rw [List.getElem?_set_ne e] at hj ⊢
      exact F.sl j s' hj
  · have at_ : ∀ p, OwnAt (Γ.set i (.own ds)) (σ.set i (some (.ref b))) p a → (p = i ∧ a = b) ∨ OwnAt Γ σ p a := fun p ⟨⟨s', g1, g2⟩, g3⟩ => by
      by_cases e : i = p
      · subst e
        have hi : i < σ.length := by
          have := (List.getElem?_eq_some_iff.mp g3).1
          simpa using this
        rw [List.getElem?_set_self hi] at g3
        cases g3
        exact .inl ⟨rfl, rfl⟩
      · rw [List.getElem?_set_ne e] at g1 g3
        exact .inr ⟨⟨s', g1, g2⟩, g3⟩
    rcases at_ p g1 with ⟨z1, z2⟩ | z1
    · rcases at_ q g2 with ⟨y1, y2⟩ | y1
      · exact n (z1.trans y1.symm)
      · exact tr q a y1 z2
    · rcases at_ q g2 with ⟨y1, y2⟩ | y1
      · exact tr p a z1 y2
      · exact E.dj p q a n z1 y1
end
end Hn
end

section
set_option Elab.async false
set_option linter.all false
set_option maxRecDepth 100000
set_option maxHeartbeats 4000000
namespace Hn
open PySem PySem.Spec PyProof.Rows L2 NdefX LamX

/-- a fraction -/
abbrev fr (q : Rat) : D := .tup [.int q.num, .int (q.den : Int)]

/-- what an expression's reading comes to, over what is known of the slots -/
def EvP (K : PySem.W.Frag) (T : List NTab) (mo : Option Addr) (te : TE) (Γ : List Slot) (P : Kd → Prop) : Prop :=
  ∀ H0 σ H (Q : VK), EnvOk K T mo H0 H σ Γ → (∀ v H' k, P k → LeM T mo H H' → Kr K mo H H' v k → Q v H') → te σ H Q
abbrev Ev (K : PySem.W.Frag) (T : List NTab) (mo : Option Addr) (te : TE) (Γ : List Slot) (k : Kd) : Prop := EvP K T mo te Γ (fun k' => k' = k)
def TvP (K : PySem.W.Frag) (T : List NTab) (mo : Option Addr) (tt : TT) (Γ : List Slot) (B : Bool → Prop) : Prop :=
  ∀ H0 σ H (Q : Bool → Hp → Prop), EnvOk K T mo H0 H σ Γ → (∀ b H', B b → LeM T mo H H' → Q b H') → tt σ H Q
abbrev Tv (K : PySem.W.Frag) (T : List NTab) (mo : Option Addr) (tt : TT) (Γ : List Slot) (b : Bool) : Prop := TvP K T mo tt Γ (fun c => c = b)
def AvP (K : PySem.W.Frag) (T : List NTab) (mo : Option Addr) (ta : TA) (Γ : List Slot) (P : List Kd → Prop) : Prop :=
  ∀ H0 σ H (Q : List V → Hp → Prop), EnvOk K T mo H0 H σ Γ → (∀ vs H' ks, P ks → LeM T mo H H' → KrA K mo H' vs ks → Q vs H') → ta σ H Q
abbrev Av (K : PySem.W.Frag) (T : List NTab) (mo : Option Addr) (ta : TA) (Γ : List Slot) (ks : List Kd) : Prop := AvP K T mo ta Γ (fun k' => k' = ks)

section
variable {K : PySem.W.Frag} {T : List NTab} {mo : Option Addr} {te ta tb tc : TE} {tt tu : TT} {tg : TA} {Γ : List Slot} {k : Kd} {P P1 P2 : Kd → Prop} {B B1 B2 : Bool → Prop} {b : Bool} {d d1 d2 : D} {ds : List D} {i j : Int}

theorem EvP.to (h : EvP K T mo te Γ P) (e : ∀ k, P k → P1 k) : EvP K T mo te Γ P1 := fun H0 σ H Q E q => h H0 σ H Q E fun v H' k p => q v H' k (e k p)
theorem Ev.as (h : Ev K T mo te Γ k) {k' : Kd} (e : k = k') : Ev K T mo te Γ k' := e ▸ h
theorem TvP.to (h : TvP K T mo tt Γ B) (e : ∀ b, B b → B1 b) : TvP K T mo tt Γ B1 := fun H0 σ H Q E q => h H0 σ H Q E fun b H' p => q b H' (e b p)
theorem Tv.as (h : Tv K T mo tt Γ b) {c : Bool} (e : b = c) : Tv K T mo tt Γ c := e ▸ h
/-- from the deterministic one -/
theorem EvP.of {p : Kd → Prop} (h : Ev K T mo te Γ k) (e : p k) : EvP K T mo te Γ p := h.to fun _ z => z ▸ e
theorem ev_ls (h : Ev K T mo te Γ (.fl ds)) : Ev K T mo te Γ (.ls ds) := fun H0 σ H Q E q => h H0 σ H Q E fun v H' k p e r => by
  subst p
  exact q v H' _ rfl e (r.ls E.wl)
theorem ev_var {n : Nat} {s : Slot} (h : Γ[n]? = some s) (hk : s.rd = some k) : Ev K T mo (tVar n) Γ k := fun H0 σ H Q E q => by
  obtain ⟨v, h1, h2, _⟩ := E.rd h hk
  exact ⟨v, h1, q v H k rfl LeM.refl h2⟩
theorem ev_int : Ev K T mo (tC (.int i)) Γ (.im (.int i)) := fun H0 σ H Q E q => q _ H _ rfl LeM.refl (.int i)
theorem ev_bl : Ev K T mo (tC (.bl b)) Γ (.im (.bl b)) := fun H0 σ H Q E q => q _ H _ rfl LeM.refl (.bl b)
theorem ev_non : Ev K T mo (tC .non) Γ (.im .non) := fun H0 σ H Q E q => q _ H _ rfl LeM.refl .non
theorem ev_str {x : Str} : Ev K T mo (tC (.str x)) Γ (.im (.str x)) := fun H0 σ H Q E q => q _ H _ rfl LeM.refl (.str x)
/-- a constant of the module -/
theorem ev_gl {v : V} (h : ∀ H, Rp K H v d) : Ev K T mo (tC v) Γ (.im d) := fun H0 σ H Q E q => q _ H _ rfl LeM.refl (h H)

/-! ### operators on ints -/
theorem ev_opP {r : R2} (ha : EvP K T mo ta Γ P1) (hb : EvP K T mo tb Γ P2)
    (hr : ∀ k1 k2, P1 k1 → P2 k2 → ∃ d1 d2, k1 = .im d1 ∧ k2 = .im d2 ∧ ∀ H x y (Q : VK), Rp K H x d1 → Rp K H y d2 → (∀ v k, P k → Kr K mo H H v k → k.arg = true → Q v H) → r x y H Q) : EvP K T mo (tOp r ta tb) Γ P := fun H0 σ H Q E q =>
  ha H0 σ H _ E fun x H1 k1 p1 e1 r1 => hb H0 σ H1 _ (E.on e1) fun y H2 k2 p2 e2 r2 => by
    obtain ⟨d1, d2, rfl, rfl, g⟩ := hr k1 k2 p1 p2
    exact g H2 x y Q (Rp.mono e2.tup r1) r2 fun v k p z zk => q v H2 k p (e1.trans e2) (z.any (.inl zk))
theorem ev_opI {C : Int → Int → Prop} {f : Int → Int → Int} (ha : Ev K T mo ta Γ (.im (.int i))) (hb : Ev K T mo tb Γ (.im (.int j))) (hc : C i j) : Ev K T mo (tOp (rI C fun i j => .int (f i j)) ta tb) Γ (.im (.int (f i j))) :=
  ev_opP ha hb fun k1 k2 p1 p2 => ⟨.int i, .int j, p1, p2, fun H x y Q r1 r2 q => by
    cases r1
    cases r2
    exact ⟨i, j, rfl, rfl, hc, q _ _ rfl (.int _) rfl⟩⟩
theorem ev_opI0 {f : Int → Int → Int} (ha : Ev K T mo ta Γ (.im (.int i))) (hb : Ev K T mo tb Γ (.im (.int j))) : Ev K T mo (tOp (rI0 fun i j => .int (f i j)) ta tb) Γ (.im (.int (f i j))) :=
  ev_opP ha hb fun k1 k2 p1 p2 => ⟨.int i, .int j, p1, p2, fun H x y Q r1 r2 q => by
    cases r1
    cases r2
    exact ⟨i, j, rfl, rfl, q _ _ rfl (.int _) rfl⟩⟩
theorem ev_opB0 {f : Int → Int → Bool} (ha : Ev K T mo ta Γ (.im (.int i))) (hb : Ev K T mo tb Γ (.im (.int j))) : Ev K T mo (tOp (rI0 fun i j => .bl (f i j)) ta tb) Γ (.im (.bl (f i j))) :=
  ev_opP ha hb fun k1 k2 p1 p2 => ⟨.int i, .int j, p1, p2, fun H x y Q r1 r2 q => by
    cases r1
    cases r2
    exact ⟨i, j, rfl, rfl, q _ _ rfl (.bl _) rfl⟩⟩
theorem ev_unI {f : Int → Int} (ha : Ev K T mo ta Γ (.im (.int i))) : Ev K T mo (tUn (rU fun i => .int (f i)) ta) Γ (.im (.int (f i))) := fun H0 σ H Q E q =>
  ha H0 σ H _ E fun x H1 k1 p1 e1 r1 => by
    subst p1
    cases r1
    exact ⟨i, rfl, q _ H1 _ rfl e1 (.int _)⟩
/-- == and != of ints, texts, truth values, None -/
def eqD : D → D → Bool
  | .int i, .int j => decide (i = j)
  | .str x, .str y => decide (x = y)
  | .bl x, .bl y => decide (x = y)
  | _, _ => false
theorem ev_eqI (ha : Ev K T mo ta Γ (.im (.int i))) (hb : Ev K T mo tb Γ (.im (.int j))) : Ev K T mo (tOp rEq ta tb) Γ (.im (.bl (decide (i = j)))) :=
  ev_opP ha hb fun k1 k2 p1 p2 => ⟨.int i, .int j, p1, p2, fun H x y Q r1 r2 q => by
    cases r1
    cases r2
    have e : decide (V.int i = V.int j) = decide (i = j) := by simp
    exact ⟨rfl, by rw [e]; exact q _ _ rfl (.bl _) rfl⟩⟩
theorem ev_neI (ha : Ev K T mo ta Γ (.im (.int i))) (hb : Ev K T mo tb Γ (.im (.int j))) : Ev K T mo (tOp rNe ta tb) Γ (.im (.bl (!decide (i = j)))) :=
  ev_opP ha hb fun k1 k2 p1 p2 => ⟨.int i, .int j, p1, p2, fun H x y Q r1 r2 q => by
    cases r1
    cases r2
    have e : decide (V.int i = V.int j) = decide (i = j) := by simp
    exact ⟨rfl, by rw [e]; exact q _ _ rfl (.bl _) rfl⟩⟩
theorem ev_eqS {x y : Str} (ha : Ev K T mo ta Γ (.im (.str x))) (hb : Ev K T mo tb Γ (.im (.str y))) : Ev K T mo (tOp rEq ta tb) Γ (.im (.bl (decide (x = y)))) :=
  ev_opP ha hb fun k1 k2 p1 p2 => ⟨.str x, .str y, p1, p2, fun H u v Q r1 r2 q => by
    cases r1
    cases r2
    have e : decide (V.str x = V.str y) = decide (x = y) := by simp
    exact ⟨rfl, by rw [e]; exact q _ _ rfl (.bl _) rfl⟩⟩
theorem ev_neS {x y : Str} (ha : Ev K T mo ta Γ (.im (.str x))) (hb : Ev K T mo tb Γ (.im (.str y))) : Ev K T mo (tOp rNe ta tb) Γ (.im (.bl (!decide (x = y)))) :=
  ev_opP ha hb fun k1 k2 p1 p2 => ⟨.str x, .str y, p1, p2, fun H u v Q r1 r2 q => by
    cases r1
    cases r2
    have e : decide (V.str x = V.str y) = decide (x = y) := by simp
    exact ⟨rfl, by rw [e]; exact q _ _ rfl (.bl _) rfl⟩⟩

/-! ### is None -/
def D.isNon : D → Bool
  | .non => true
  | _ => false
theorem Rp.isNon {H : Hp} {v : V} (h : Rp K H v d) : decide (v = .non) = d.isNon := by
  cases h <;> rfl
def rIsNo : R2 := fun x y H Q => y = .non ∧ Q (.bl (decide (x = .non))) H
def rNoNo : R2 := fun x y H Q => y = .non ∧ Q (.bl (!decide (x = .non))) H
theorem op_isNo {X : Cx} : OpR X (compareOp .Is) rIsNo := op_isN
theorem op_noNo {X : Cx} : OpR X (compareOp .IsNot) rNoNo := op_notN
theorem ev_isN (ha : Ev K T mo ta Γ (.im d)) : Ev K T mo (tOp rIsNo ta (tC .non)) Γ (.im (.bl d.isNon)) :=
  ev_opP ha ev_non fun k1 k2 p1 p2 => ⟨d, .non, p1, p2, fun H x y Q r1 r2 q => by
    cases r2
    exact ⟨rfl, by rw [r1.isNon]; exact q _ _ rfl (.bl _) rfl⟩⟩
theorem ev_notN (ha : Ev K T mo ta Γ (.im d)) : Ev K T mo (tOp rNoNo ta (tC .non)) Γ (.im (.bl (!d.isNon))) :=
  ev_opP ha ev_non fun k1 k2 p1 p2 => ⟨d, .non, p1, p2, fun H x y Q r1 r2 q => by
    cases r2
    exact ⟨rfl, by rw [r1.isNon]; exact q _ _ rfl (.bl _) rfl⟩⟩

/-! ### tests -/
theorem tv_test (h : Ev K T mo te Γ (.im (.bl b))) : Tv K T mo (tTest te) Γ b := fun H0 σ H Q E q => h H0 σ H _ E fun x H1 k p e r => by
  subst p
  cases r
  exact ⟨b, rfl, q b H1 rfl e⟩
theorem tv_B (h : Ev K T mo te Γ (.im (.bl b))) : Tv K T mo (tB te) Γ b := fun H0 σ H Q E q => h H0 σ H _ E fun x H1 k p e r => by
  subst p
  cases r
  exact ⟨b, rfl, q b H1 rfl e⟩
theorem tv_testP (h : EvP K T mo te Γ P) (hp : ∀ k, P k → ∃ b, k = .im (.bl b) ∧ B b) : TvP K T mo (tTest te) Γ B := fun H0 σ H Q E q => h H0 σ H _ E fun x H1 k p e r => by
  obtain ⟨b, rfl, z⟩ := hp k p
  cases r
  exact ⟨b, rfl, q b H1 z e⟩
theorem tv_not (h : Tv K T mo tt Γ b) : Tv K T mo (tNot tt) Γ (!b) := fun H0 σ H Q E q => h H0 σ H _ E fun c H1 p e => by
  subst p
  exact q _ H1 rfl e
theorem tv_and {c : Bool} (h1 : Tv K T mo tt Γ b) (h2 : b = true → Tv K T mo tu Γ c) : Tv K T mo (tAnd tt tu) Γ (b && c) := fun H0 σ H Q E q => h1 H0 σ H _ E fun z H1 p e => by
  subst p
  cases z with
  | true => exact h2 rfl H0 σ H1 Q (E.on e) fun y H2 p2 e2 => q y H2 (by rw [p2]; rfl) (e.trans e2)
  | false => exact q false H1 rfl e
theorem tv_or {c : Bool} (h1 : Tv K T mo tt Γ b) (h2 : b = false → Tv K T mo tu Γ c) : Tv K T mo (tOr tt tu) Γ (b || c) := fun H0 σ H Q E q => h1 H0 σ H _ E fun z H1 p e => by
  subst p
  cases z with
  | true => exact q true H1 rfl e
  | false => exact h2 rfl H0 σ H1 Q (E.on e) fun y H2 p2 e2 => q y H2 (by rw [p2]; rfl) (e.trans e2)
/-- and, or, not as values -/
theorem ev_andV {c : Bool} (h1 : Ev K T mo ta Γ (.im (.bl b))) (h2 : b = true → Ev K T mo tb Γ (.im (.bl c))) : Ev K T mo (tAndV ta tb) Γ (.im (.bl (b && c))) := fun H0 σ H Q E q => h1 H0 σ H _ E fun x H1 k p e r => by
  subst p
  cases r
  refine ⟨b, rfl, ?_⟩
  cases b with
  | true => exact h2 rfl H0 σ H1 Q (E.on e) fun y H2 k2 p2 e2 r2 => q y H2 k2 p2 (e.trans e2) (r2.back e)
  | false => exact q _ H1 _ rfl e (.bl false)
theorem ev_orV {c : Bool} (h1 : Ev K T mo ta Γ (.im (.bl b))) (h2 : b = false → Ev K T mo tb Γ (.im (.bl c))) : Ev K T mo (tOrV ta tb) Γ (.im (.bl (b || c))) := fun H0 σ H Q E q => h1 H0 σ H _ E fun x H1 k p e r => by
  subst p
  cases r
  refine ⟨b, rfl, ?_⟩
  cases b with
  | true => exact q _ H1 _ rfl e (.bl true)
  | false => exact h2 rfl H0 σ H1 Q (E.on e) fun y H2 k2 p2 e2 r2 => q y H2 k2 p2 (e.trans e2) (r2.back e)
theorem ev_notV (h1 : Ev K T mo ta Γ (.im (.bl b))) : Ev K T mo (tNotV ta) Γ (.im (.bl (!b))) := fun H0 σ H Q E q => h1 H0 σ H _ E fun x H1 k p e r => by
  subst p
  cases r
  exact ⟨b, rfl, q _ H1 _ rfl e (.bl _)⟩
theorem ev_ifP (h : TvP K T mo tt Γ B) (h1 : B true → EvP K T mo ta Γ P) (h2 : B false → EvP K T mo tb Γ P) : EvP K T mo (tIf tt ta tb) Γ P := fun H0 σ H Q E q => h H0 σ H _ E fun z H1 p e => by
  cases z with
  | true => exact h1 p H0 σ H1 Q (E.on e) fun y H2 k2 p2 e2 r2 => q y H2 k2 p2 (e.trans e2) (r2.back e)
  | false => exact h2 p H0 σ H1 Q (E.on e) fun y H2 k2 p2 e2 r2 => q y H2 k2 p2 (e.trans e2) (r2.back e)
theorem ev_if (h : Tv K T mo tt Γ b) (h1 : b = true → EvP K T mo ta Γ P) (h2 : b = false → EvP K T mo tb Γ P) : EvP K T mo (tIf tt ta tb) Γ P :=
  ev_ifP h (fun z => h1 z.symm) fun z => h2 z.symm
/-- two data -/
theorem ev_ifD {d1 d2 : D} (h : Tv K T mo tt Γ b) (h1 : b = true → Ev K T mo ta Γ (.im d1)) (h2 : b = false → Ev K T mo tb Γ (.im d2)) : Ev K T mo (tIf tt ta tb) Γ (.im (if b = true then d1 else d2)) :=
  ev_if h (fun e => (h1 e).as (by rw [if_pos e])) fun e => (h2 e).as (by rw [if_neg (by rw [e]; exact Bool.false_ne_true)])
/-- a chain of two comparisons of ints -/
theorem ev_chainI {f g : Int → Int → Bool} {l : Int} (ha : Ev K T mo ta Γ (.im (.int i))) (hb : Ev K T mo tb Γ (.im (.int j))) (hc : Ev K T mo tc Γ (.im (.int l))) :
    Ev K T mo (tChain (rI0 fun i j => .bl (f i j)) (rI0 fun i j => .bl (g i j)) ta tb tc) Γ (.im (.bl (f i j && g j l))) := fun H0 σ H Q E q =>
  ha H0 σ H _ E fun x H1 k1 p1 e1 r1 => hb H0 σ H1 _ (E.on e1) fun y H2 k2 p2 e2 r2 => by
    subst p1 p2
    cases r1
    cases r2
    refine ⟨i, j, rfl, rfl, f i j, rfl, ?_⟩
    have E2 := (E.on e1).on e2
    cases hz : f i j with
    | true =>
      refine hc H0 σ H2 _ E2 fun w H3 k3 p3 e3 r3 => ?_
      subst p3
      cases r3
      exact ⟨j, l, rfl, rfl, q _ H3 (.im (.bl (g j l))) (by rw [hz, Bool.true_and]) ((e1.trans e2).trans e3) (.bl _)⟩
    | false => exact q _ H2 (.im (.bl false)) (by rw [hz, Bool.false_and]) (e1.trans e2) (.bl _)

/-! ### argument lists, displays -/
theorem av_nil : Av K T mo tNil Γ [] := fun H0 σ H Q E q => q [] H [] rfl LeM.refl .nil
theorem av_consP {P3 : List Kd → Prop} {P4 : List Kd → Prop} (h : EvP K T mo ta Γ P1) (hr : AvP K T mo tg Γ P3) (hk : ∀ k ks, P1 k → P3 ks → P4 (k :: ks) ∧ (k.arg = true ∨ k = .wl)) : AvP K T mo (tCons ta tg) Γ P4 := fun H0 σ H Q E q =>
  h H0 σ H _ E fun x H1 k p e r => hr H0 σ H1 _ (E.on e) fun xs H2 ks ps e2 rs => by
    obtain ⟨z1, z2⟩ := hk k ks p ps
    exact q (x :: xs) H2 (k :: ks) z1 (e.trans e2) (.cons ⟨(r.on E.wl e2).any z2, z2⟩ rs)
theorem av_cons {ks : List Kd} (h : Ev K T mo ta Γ k) (hr : Av K T mo tg Γ ks) (hk : (match k with | .fl _ => false | .cl _ _ _ _ _ => false | _ => true) = true := by rfl) : Av K T mo (tCons ta tg) Γ (k :: ks) :=
  av_consP h hr fun k' ks' e1 e2 => by
    subst e1 e2
    refine ⟨rfl, ?_⟩
    cases k' with
    | im d => exact .inl rfl
    | ls d => exact .inl rfl
    | fl d => cases hk
    | dc d => exact .inl rfl
    | rg a b => exact .inl rfl
    | wl => exact .inr rfl
    | cl f c q u k => cases hk
/-- data alone -/
def Kd.imD : Kd → Option D
  | .im d => some d
  | _ => none
def imA : List D → List Kd := List.map Kd.im
theorem KrA.im {H : Hp} : ∀ {vs : List V} {ds : List D}, KrA K mo H vs (ds.map Kd.im) → RpA K H vs ds
  | _, [], .nil => .nil
  | _, d :: ds, .cons h t => .cons h.1 (KrA.im t)
theorem ev_tup (h : Av K T mo tg Γ (ds.map Kd.im)) (hl : Nat.ble ds.length 1000 = true := by rfl) : Ev K T mo (tTup tg) Γ (.im (.tup ds)) := fun H0 σ H Q E q =>
  h H0 σ H _ E fun vs H1 ks p e r => by
    subst p
    have ra := KrA.im r
    have hl := Nat.le_of_ble_eq_true hl
    refine ⟨by rw [ra.length, sizeLine_eq]; omega, fun a ha => q _ _ _ rfl (e.trans (LeM.new ha)) (.tup (.of upd_same) (ra.mono (LeM.new (T := T) (mo := mo) ha).tup))⟩
theorem ev_lst (h : Av K T mo tg Γ (ds.map Kd.im)) (hl : Nat.ble ds.length 1000 = true := by rfl) : Ev K T mo (tLst tg) Γ (.fl ds) := fun H0 σ H Q E q =>
  h H0 σ H _ E fun vs H1 ks p e r => by
    subst p
    have ra := KrA.im r
    have hl := Nat.le_of_ble_eq_true hl
    refine ⟨by rw [ra.length, sizeLine_eq]; omega, fun a ha => q _ _ _ rfl (e.trans (LeM.new ha)) ⟨a, vs, rfl, e.fresh ha, upd_same, ra.mono (LeM.new (T := T) (mo := mo) ha).tup⟩⟩

/-! ### subscripts -/
theorem RpA.at {H : Hp} {vs : List V} (h : RpA K H vs ds) (ha : atI ds i = some d) : ∃ v, atI vs i = some v ∧ Rp K H v d := by
  unfold atI at ha
  have el := h.length
  cases q : ixN ds.length i with
  | none =>
    rw [q] at ha
    cases ha
  | some n =>
    rw [q] at ha
    obtain ⟨v, h1, h2⟩ := h.get ha
    refine ⟨v, ?_, h2⟩
    unfold atI
    rw [el, q]
    exact h1
theorem ev_ixT (ha : Ev K T mo ta Γ (.im (.tup ds))) (hb : Ev K T mo tb Γ (.im (.int i))) (hd : atI ds i = some d) : Ev K T mo (tOp (rIxT K) ta tb) Γ (.im d) :=
  ev_opP ha hb fun k1 k2 p1 p2 => ⟨.tup ds, .int i, p1, p2, fun H x y Q r1 r2 q => by
    cases r1 with
    | tup hs hr =>
      cases r2
      obtain ⟨v, h1, h2⟩ := hr.at hd
      exact ⟨_, _, i, v, rfl, rfl, hs, h1, q _ _ rfl h2 rfl⟩⟩
/-- of a list -/
theorem ev_ixL (ha : Ev K T mo ta Γ (.ls ds)) (hb : Ev K T mo tb Γ (.im (.int i))) (hd : atI ds i = some d) : Ev K T mo (tOp (rIxL K) ta tb) Γ (.im d) := fun H0 σ H Q E q =>
  ha H0 σ H _ E fun x H1 k1 p1 e1 r1 => hb H0 σ H1 _ (E.on e1) fun y H2 k2 p2 e2 r2 => by
    subst p1 p2
    obtain ⟨a, xs, rfl, g1, g2, g3⟩ := r1.on E.wl e2
    cases r2
    obtain ⟨v, h1, h2⟩ := g3.at hd
    exact ⟨a, xs, i, v, rfl, rfl, g2, h1, q _ H2 _ rfl (e1.trans e2) h2⟩
/-- an item that hangs on a number that is not known -/
theorem ev_ixTP {I : Int → Prop} (ha : Ev K T mo ta Γ (.im (.tup ds))) (hb : EvP K T mo tb Γ (fun k => ∃ i, k = .im (.int i) ∧ I i)) (hd : ∀ i, I i → ∃ d, atI ds i = some d ∧ P (.im d)) : EvP K T mo (tOp (rIxT K) ta tb) Γ P :=
  ev_opP ha hb fun k1 k2 p1 p2 => by
    obtain ⟨i, rfl, hi⟩ := p2
    refine ⟨.tup ds, .int i, p1, rfl, fun H x y Q r1 r2 q => ?_⟩
    cases r1 with
    | tup hs hr =>
      cases r2
      obtain ⟨d, h0, hp⟩ := hd i hi
      obtain ⟨v, h1, h2⟩ := hr.at h0
      exact ⟨_, _, i, v, rfl, rfl, hs, h1, q _ _ hp h2 rfl⟩
end
end Hn
end

section
set_option Elab.async false
set_option linter.all false
set_option maxRecDepth 100000
set_option maxHeartbeats 4000000
namespace Hn
open PySem PySem.Spec PyProof.Rows L2 NdefX LamX

/-- all stays, or (true) the tuples at least -/
def Stay (T : List NTab) (mo : Option Addr) : Bool → Hp → Hp → Prop
  | true => TupLe
  | false => LeM T mo
section
variable {K : PySem.W.Frag} {T : List NTab} {mo : Option Addr} {w : Bool} {H H1 H2 : Hp}
theorem Stay.of (e : LeM T mo H H1) : Stay T mo w H H1 := by
  cases w with
  | true => exact e.tup
  | false => exact e
theorem Stay.trans (a : Stay T mo w H H1) (b : Stay T mo w H1 H2) : Stay T mo w H H2 := by
  cases w with
  | true => exact TupLe.trans a b
  | false => exact LeM.trans a b
theorem Stay.tup (a : Stay T mo w H H1) : TupLe H H1 := by
  cases w with
  | true => exact a
  | false => exact LeM.tup a
theorem Stay.weak {w' : Bool} (a : Stay T mo w H H1) (h : w = true → w' = true) : Stay T mo w' H H1 := by
  cases w' with
  | true => exact a.tup
  | false =>
    cases w with
    | true => exact absurd (h rfl) (by decide)
    | false => exact a
end

/-- what a walk gives: n turns, at the i-th the slots are as up says -/
def IterP (K : PySem.W.Frag) (T : List NTab) (mo : Option Addr) (w : Bool) (wi : TI) (g : TG) (js : List Nat) (Γ : List Slot) (n : Nat) (up : Nat → List Slot → List Slot) : Prop :=
  ∀ H0 σ H (R : It → Hp → Prop), EnvOk K T mo H0 H σ Γ →
    (∀ J H1 (G : Hp → Prop), LeM T mo H H1 → (∀ H2, Stay T mo w H1 H2 → G H2) → (∀ i H', i < n → G H' → J.go i H') → (∀ H', G H' → J.stop n H') →
      (∀ i H' x H'', i < n → G H' → J.yld i H' x H'' → LeM T mo H' H'' ∧ ∀ H0' σ' Γ' (Q : L2.St → Hp → Prop), EnvOk K T mo H0' H'' σ' Γ' →
        (∀ σ'', EnvOk K T mo H0' H'' σ'' (up i Γ') → (∀ vs, (∀ j, j ∈ js → j ∈ vs) → wipe σ'' vs = wipe σ' vs) → Q σ'' H'') → g x σ' H'' Q) → R J H1) → wi σ H R

/-- the slots of a block's own names forgotten -/
def wipeS (Γ : List Slot) : List Nat → List Slot
  | [] => Γ
  | v :: vs => (wipeS Γ vs).set v .none
section
variable {K : PySem.W.Frag} {T : List NTab} {mo : Option Addr} {w : Bool} {H H0 H1 H2 : Hp} {σ : L2.St} {Γ : List Slot} {vs : List Nat}
theorem EnvOk.wipe (E : EnvOk K T mo H0 H σ Γ) : ∀ vs, EnvOk K T mo H0 H (L2.wipe σ vs) (wipeS Γ vs)
  | [] => E
  | v :: vs => (E.wipe vs).setAny v Option.none rfl trivial
theorem wipe_at {v : Nat} (h : v < σ.length) : ∀ {vs : List Nat}, v ∈ vs → (L2.wipe σ vs)[v]? = some none
  | u :: us, hm => by
    by_cases e : u = v
    · subst e
      show ((L2.wipe σ us).set u none)[u]? = some none
      rw [List.getElem?_set_self (by rw [wipe_length]; exact h)]
    · show ((L2.wipe σ us).set u none)[v]? = some none
      rw [List.getElem?_set_ne e]
      exact wipe_at h ((List.mem_cons.mp hm).resolve_left (Ne.symm e))
theorem wipe_out' {v : Nat} : ∀ {vs : List Nat}, v ∉ vs → (L2.wipe σ vs)[v]? = σ[v]?
  | [], _ => rfl
  | u :: us, hm => by
    show ((L2.wipe σ us).set u none)[v]? = σ[v]?
    rw [List.getElem?_set_ne (fun e => hm (by rw [e]; exact List.mem_cons_self))]
    exact wipe_out' (fun z => hm (List.mem_cons_of_mem _ z))
theorem wipe_eq {σ σ' : L2.St} {vs : List Nat} (hl : σ.length = σ'.length) (h : ∀ v, v ∉ vs → σ[v]? = σ'[v]?) : L2.wipe σ vs = L2.wipe σ' vs := by
  apply List.ext_getElem?
  intro v
  by_cases hv : v ∈ vs
  · by_cases hb : v < σ.length
    · rw [wipe_at hb hv, wipe_at (by rw [← hl]; exact hb) hv]
    · rw [List.getElem?_eq_none (by rw [wipe_length]; omega), List.getElem?_eq_none (by rw [wipe_length]; omega)]
  · rw [wipe_out' hv, wipe_out' hv, h v hv]
theorem wipe_wipe : L2.wipe (L2.wipe σ vs) vs = L2.wipe σ vs := wipe_eq (wipe_length _ _) fun _ h => wipe_out' h
theorem wipe_set {j : Nat} {o : Option V} (h : j ∈ vs) : L2.wipe (σ.set j o) vs = L2.wipe σ vs := wipe_eq (by simp) fun v hv => by
  rw [List.getElem?_set_ne (fun e => hv (by rw [← e]; exact h))]
end

/-- the items that a test takes -/
def given {α : Type} (n : Nat) (f : Nat → Bool) (d : Nat → α) : List α := ((List.range n).filter f).map d
section
variable {α : Type}
theorem given_yes {n : Nat} {f : Nat → Bool} {d : Nat → α} (h : f n = true) : given (n + 1) f d = given n f d ++ [d n] := by
  unfold given
  rw [List.range_succ, List.filter_append, List.map_append, List.filter_cons, if_pos h]
  rfl
theorem given_no {n : Nat} {f : Nat → Bool} {d : Nat → α} (h : f n = false) : given (n + 1) f d = given n f d := by
  unfold given
  rw [List.range_succ, List.filter_append, List.map_append, List.filter_cons, if_neg (by rw [h]; decide)]
  exact List.append_nil _
theorem given_le (n : Nat) (f : Nat → Bool) (d : Nat → α) : (given n f d).length ≤ n := by
  unfold given
  rw [List.length_map]
  exact Nat.le_trans (List.length_filter_le f _) (Nat.le_of_eq List.length_range)
/-- all of them -/
theorem given_all (n : Nat) (d : Nat → α) : given n (fun _ => true) d = (List.range n).map d := by
  unfold given
  rw [List.filter_eq_self.mpr (fun _ _ => rfl)]
end

section
variable {K : PySem.W.Frag} {T : List NTab} {mo : Option Addr} {w : Bool} {te ta tb : TE} {tt tu : TT} {tg : TA} {Γ : List Slot} {k : Kd} {P P1 P2 : Kd → Prop} {b : Bool} {d d1 d2 : D} {ds : List D} {i j : Int} {wi : TI} {g : TG} {js vs : List Nat} {n : Nat} {up : Nat → List Slot → List Slot}

/-! ### comprehensions -/
theorem ev_lc {f : Nat → Bool} {dd : Nat → D} (hi : IterP K T mo w wi g js Γ n up) (ht : ∀ i, i < n → Tv K T mo tt (up i (wipeS Γ vs)) (f i)) (he : ∀ i, i < n → f i = true → Ev K T mo te (up i (wipeS Γ vs)) (.im (dd i)))
    (hn : n ≤ 10000) (hjs : ∀ j, j ∈ js → j ∈ vs) : Ev K T mo (tLc wi g tt te vs) Γ (.fl (given n f dd)) := fun H0 σ H Q E q =>
  hi H0 σ H _ E fun J H1 G e1 hG hgo hstop hy Dl hD => by
    have E1 := E.on e1
    refine lc_it (J := J) (n := n) (G := G) (Y := fun i H x H' => J.yld i H x H') ⟨fun i H' a b => hgo i H' a b, hstop, fun _ _ _ _ _ _ y => y⟩
      (fun i H' => LeM T mo H1 H' ∧ ∃ xs, H' Dl = some (.lst xs) ∧ RpA K H' xs (given i f dd)) ⟨LeM.new hD, [], upd_same, .nil⟩ (fun i H' _ p => hG H' (.of p.1)) (fun i x H' H'' hi' p y => ?_) (fun H' p => ?_)
    · obtain ⟨pl, xs, pD, pr⟩ := p
      obtain ⟨ly, hg⟩ := hy i H' x H'' hi' (hG H' (.of pl)) y
      have mD : mo ≠ some Dl := E1.wl.no hD
      have E2 : EnvOk K T mo H0 H'' (L2.wipe σ vs) (wipeS Γ vs) := ((E1.on pl).on ly).wipe vs
      refine hg H0 _ _ _ E2 fun σ2 E3 hw => ⟨(hw vs hjs).trans wipe_wipe, ?_⟩
      refine ht i hi' H0 σ2 H'' _ E3 fun c H3 hc e3 => ?_
      subst hc
      have l3 := (pl.trans ly).trans e3
      cases hf : f i with
      | true =>
        show te σ2 H3 _
        refine he i hi' hf H0 σ2 H3 _ (E3.on e3) fun v H4 k hk e4 r4 => ?_
        subst hk
        have hD4 := e4.lst mD (e3.lst mD (ly.lst mD pD))
        have hlen : xs.length ≤ i := by rw [pr.length]; exact given_le _ _ _
        have t4 : TupLe H4 (upd H4 Dl (.lst (xs ++ [v]))) := tup_upd hD4 (fun _ z => nomatch z) (fun _ _ z => nomatch z)
        refine ⟨xs, hD4, by rw [sizeLine_eq]; omega, (l3.trans e4).mut hD mD hD4, xs ++ [v], upd_same, ?_⟩
        rw [given_yes hf]
        exact ((((pr.mono ly.tup).mono e3.tup).mono e4.tup).append (.cons r4 .nil)).mono t4
      | false =>
        show LeM T mo H1 H3 ∧ _
        refine ⟨l3, xs, e3.lst mD (ly.lst mD pD), ?_⟩
        rw [given_no hf]
        exact (pr.mono ly.tup).mono e3.tup
    · obtain ⟨pl, xs, pD, pr⟩ := p
      exact q (.ref Dl) H' _ rfl (e1.trans pl) ⟨Dl, xs, rfl, e1.fresh hD, pD, pr⟩
theorem tv_yes : Tv K T mo tYes Γ true := fun H0 σ H Q E q => q true H rfl LeM.refl
/-- without a test -/
theorem ev_lcA {dd : Nat → D} (hi : IterP K T mo w wi g js Γ n up) (he : ∀ i, i < n → Ev K T mo te (up i (wipeS Γ vs)) (.im (dd i)))
    (hn : n ≤ 10000) (hjs : ∀ j, j ∈ js → j ∈ vs) : Ev K T mo (tLc wi g tYes te vs) Γ (.fl ((List.range n).map dd)) :=
  (ev_lc (f := fun _ => true) hi (fun _ _ => tv_yes) (fun i h _ => he i h) hn hjs).as (by rw [given_all])

/-! ### walks -/
theorem gn_ok {j : Nat} {v : V} {H0 H : Hp} {σ : L2.St} {Q : L2.St → Hp → Prop} (E : EnvOk K T mo H0 H σ Γ) (h : Rp K H v d) (q : ∀ σ'', EnvOk K T mo H0 H σ'' (Γ.set j (.im d)) → (∀ vs, (∀ i, i ∈ [j] → i ∈ vs) → L2.wipe σ'' vs = L2.wipe σ vs) → Q σ'' H) : gName j v σ H Q :=
  q _ (E.setIm j h) fun vs hv => wipe_set (hv j List.mem_cons_self)
/-- range(n) -/
theorem it_rng {j : Nat} {m : Int} (h : Av K T mo tg Γ [.im (.int m)]) (h0 : 0 ≤ m) (h1 : m ≤ 100000) : IterP K T mo true (iRng1 tg) (gName j) [j] Γ m.toNat (fun i Γ' => Γ'.set j (.im (.int ((i : Nat) : Int)))) := fun H0 σ H R E q =>
  h H0 σ H _ E fun vs H1 ks hk e1 r1 => by
    subst hk
    cases r1 with
    | cons r rs =>
      cases rs
      cases r.1
      refine ⟨m, rfl, by omega, by omega, ?_⟩
      refine q (Itr 0 m.toNat) H1 (fun _ => True) e1 (fun _ _ => trivial) (fun i H' hi _ => hi) (fun H' _ => Nat.le_refl _) fun i H' x H'' hi _ y => ?_
      obtain ⟨e, rfl⟩ := y
      subst e
      refine ⟨LeM.refl, fun H0' σ' Γ' Q E' q' => ?_⟩
      rw [Int.zero_add]
      exact gn_ok E' (.int _) q'
theorem SqT.rp {H : Hp} {a : Addr} (h : Rp K H (.ref a) (.tup ds)) : ∃ xs, SqT K H a xs ∧ RpA K H xs ds := by
  cases h with
  | tup hs ha => exact ⟨_, hs, ha⟩
/-- the items of a tuple -/
theorem it_tup {j : Nat} (h : Ev K T mo te Γ (.im (.tup ds))) {dd : Nat → D} (hd : ∀ i, i < ds.length → ds[i]? = some (dd i)) : IterP K T mo true (iTup K te) (gName j) [j] Γ ds.length (fun i Γ' => Γ'.set j (.im (dd i))) := fun H0 σ H R E q =>
  h H0 σ H _ E fun v H1 k hk e1 r1 => by
    subst hk
    cases r1 with
    | @tup a xs _ hs ha =>
      refine ⟨a, rfl, ⟨xs, hs⟩, ?_⟩
      have el := ha.length
      refine q (Itt K a) H1 (fun H2 => TupLe H1 H2) e1 (fun _ t => t) (fun i H' hi t => ?_) (fun H' t => ⟨xs, t.sq hs, by omega⟩) fun i H' x H'' hi t y => ?_
      · exact ⟨xs, xs[i]'(by omega), t.sq hs, by rw [List.getElem?_eq_getElem]⟩
      · obtain ⟨e, y⟩ := y
        subst e
        refine ⟨LeM.refl, fun H0' σ' Γ' Q E' q' => ?_⟩
        obtain ⟨u, h1, h2⟩ := ha.get (hd i hi)
        have e2 := y xs (t.sq hs)
        rw [h1] at e2
        cases e2
        exact gn_ok E' (h2.mono t) q'
/-- the items of a list -/
theorem it_lst {j : Nat} (h : Ev K T mo te Γ (.ls ds)) {dd : Nat → D} (hd : ∀ i, i < ds.length → ds[i]? = some (dd i)) : IterP K T mo false (iList K te) (gName j) [j] Γ ds.length (fun i Γ' => Γ'.set j (.im (dd i))) := fun H0 σ H R E q =>
  h H0 σ H _ E fun v H1 k hk e1 r1 => by
    subst hk
    obtain ⟨a, xs, rfl, hm, hs, ha⟩ := r1
    refine ⟨a, rfl, ⟨xs, hs⟩, ?_⟩
    have el := ha.length
    refine q (Itl K a) H1 (fun H2 => LeM T mo H1 H2) e1 (fun _ t => t) (fun i H' hi t => ?_) (fun H' t => ⟨xs, t.sqL hm hs, by omega⟩) fun i H' x H'' hi t y => ?_
    · exact ⟨xs, xs[i]'(by omega), t.sqL hm hs, by rw [List.getElem?_eq_getElem]⟩
    · obtain ⟨e, y⟩ := y
      subst e
      refine ⟨LeM.refl, fun H0' σ' Γ' Q E' q' => ?_⟩
      obtain ⟨u, h1, h2⟩ := ha.get (hd i hi)
      have e2 := y xs (t.sqL hm hs)
      rw [h1] at e2
      cases e2
      exact gn_ok E' (h2.mono t.tup) q'
/-- a new pair goes to two names -/
theorem gp_ok {j1 j2 : Nat} {t : Addr} {x y : V} {H0 H : Hp} {σ : L2.St} {Q : L2.St → Hp → Prop} (E : EnvOk K T mo H0 H σ Γ) (ht : H t = some (.tup [x, y])) (h1 : Rp K H x d1) (h2 : Rp K H y d2)
    (q : ∀ σ'', EnvOk K T mo H0 H σ'' ((Γ.set j1 (.im d1)).set j2 (.im d2)) → (∀ vs, (∀ i, i ∈ [j1, j2] → i ∈ vs) → L2.wipe σ'' vs = L2.wipe σ vs) → Q σ'' H) : gTup K 2 (gCons (gName j1) (gCons (gName j2) gNil)) (.ref t) σ H Q :=
  ⟨t, [x, y], rfl, .of ht, rfl, x, [y], rfl, y, [], rfl, rfl, q _ ((E.setIm j1 h1).setIm j2 h2) fun vs hv => (wipe_set (hv j2 (by simp))).trans (wipe_set (hv j1 (by simp)))⟩
end
end Hn
end

section
set_option Elab.async false
set_option linter.all false
set_option maxRecDepth 100000
set_option maxHeartbeats 4000000
namespace Hn
open PySem PySem.Spec PyProof.Rows L2 NdefX LamX

/-- what a statement's reading does to the slots (N), or gives back (R). w: only the tuples are told to stay -/
def StP (K : PySem.W.Frag) (T : List NTab) (mo : Option Addr) (w : Bool) (ts : TS) (Γ : List Slot) (N : List Slot → Prop) (R : Kd → Prop) : Prop :=
  ∀ H0 σ H (D : Ends), EnvOk K T mo H0 H σ Γ → (∀ Γ' σ' H', N Γ' → EnvOk K T mo H0 H' σ' Γ' → Stay T mo w H H' → D.nx σ' H') →
    (∀ v H' k, R k → LeM T mo H0 H' → Kr K mo H0 H' v k → D.rt v H') → ts D σ H

def Kd.fits : Kd → Bool
  | .dc _ => false
  | .wl => false
  | .cl _ _ _ _ _ => false
  | _ => true
/-- the slot of a kind -/
def Kd.slot : Kd → Slot
  | .im d => .im d
  | .ls ds => .ls ds
  | .fl ds => .own ds
  | .rg lo hi => .rg lo hi
  | _ => .none
section
variable {K : PySem.W.Frag} {T : List NTab} {mo : Option Addr} {w : Bool} {te ta tb ti : TE} {tt : TT} {tg : TA} {ts tu : TS} {Γ Γ1 : List Slot} {k : Kd} {P P1 P2 : Kd → Prop} {N N1 : List Slot → Prop} {R : Kd → Prop} {B : Bool → Prop} {b : Bool} {d d1 d2 d3 : D} {ds : List D}
  {wi : TI} {g : TG} {js : List Nat} {n : Nat} {up : Nat → List Slot → List Slot}
theorem StP.to (h : StP K T mo w ts Γ N R) {N' : List Slot → Prop} {R' : Kd → Prop} (e : ∀ Γ', N Γ' → N' Γ') (r : ∀ k, R k → R' k) : StP K T mo w ts Γ N' R' := fun H0 σ H D E q1 q2 =>
  h H0 σ H D E (fun Γ' σ' H' z => q1 Γ' σ' H' (e Γ' z)) fun v H' k z => q2 v H' k (r k z)
theorem StP.noN (h : StP K T mo w ts Γ (fun _ => False) R) : StP K T mo w ts Γ N R := h.to (fun _ z => z.elim) fun _ z => z
theorem StP.noR (h : StP K T mo w ts Γ N (fun _ => False)) : StP K T mo w ts Γ N R := h.to (fun _ z => z) fun _ z => z.elim
theorem st_next : StP K T mo w tNext Γ (fun Γ' => Γ' = Γ) R := fun H0 σ H D E q1 q2 => q1 Γ σ H rfl E (.of LeM.refl)
theorem st_seqP (h1 : StP K T mo w ts Γ N1 R) (h2 : ∀ Γ1, N1 Γ1 → StP K T mo w tu Γ1 N R) : StP K T mo w (tSeq ts tu) Γ N R := fun H0 σ H D E q1 q2 =>
  h1 H0 σ H { D with nx := tu D } E (fun Γ1 σ1 H1 z E1 s1 => h2 Γ1 z H0 σ1 H1 D E1 (fun Γ2 σ2 H2 z2 E2 s2 => q1 Γ2 σ2 H2 z2 E2 (s1.trans s2)) q2) q2
theorem st_seq (h1 : StP K T mo w ts Γ (fun Γ' => Γ' = Γ1) R) (h2 : StP K T mo w tu Γ1 N R) : StP K T mo w (tSeq ts tu) Γ N R := st_seqP h1 fun _ e => e ▸ h2
theorem st_retP (h : EvP K T mo te Γ P) (e : ∀ k, P k → R k) : StP K T mo w (tRet te) Γ N R := fun H0 σ H D E q1 q2 =>
  h H0 σ H _ E fun v H1 k p e1 r1 => q2 v H1 k (e k p) (E.le.trans e1) (r1.back E.le)
theorem st_ret (h : Ev K T mo te Γ k) (e : R k) : StP K T mo w (tRet te) Γ N R := st_retP h fun _ z => z ▸ e
theorem st_retN (e : R (.im .non)) : StP K T mo w tRetN Γ N R := fun H0 σ H D E q1 q2 => q2 .non H _ e E.le .non
/-- name = e -/
theorem st_setP {i : Nat} (h : EvP K T mo te Γ P) (hk : ∀ k, P k → k.fits = true ∧ N (Γ.set i k.slot)) : StP K T mo w (tAsg te (gName i)) Γ N R := fun H0 σ H D E q1 q2 =>
  h H0 σ H _ E fun v H1 k p e1 r1 => by
    obtain ⟨h1, h2⟩ := hk k p
    show D.nx (σ.set i (some v)) H1
    cases k with
    | im d => exact q1 _ _ _ h2 ((E.on e1).setIm i r1) (.of e1)
    | ls ds => exact q1 _ _ _ h2 ((E.on e1).setAny i (some v) rfl ⟨v, rfl, r1⟩) (.of e1)
    | fl ds => exact q1 _ _ _ h2 (E.setOwn e1 i r1) (.of e1)
    | rg lo hi => exact q1 _ _ _ h2 ((E.on e1).setAny i (some v) rfl ⟨v, rfl, r1⟩) (.of e1)
    | dc kvs => cases h1
    | wl => cases h1
    | cl f c q u k => cases h1
theorem st_set {i : Nat} (h : Ev K T mo te Γ k) (hk : k.fits = true := by rfl) : StP K T mo w (tAsg te (gName i)) Γ (fun Γ' => Γ' = Γ.set i k.slot) R :=
  st_setP h fun k' e => by
    subst e
    exact ⟨hk, rfl⟩
/-- a new list kept as a list that one does not change -/
theorem st_setLs {i : Nat} (h : Ev K T mo te Γ (.fl ds)) : StP K T mo w (tAsg te (gName i)) Γ (fun Γ' => Γ' = Γ.set i (.ls ds)) R := st_set (ev_ls h)
/-- an expression that is dropped -/
theorem st_drop (h : EvP K T mo te Γ P) : StP K T mo w (tDrop te) Γ (fun Γ' => Γ' = Γ) R := fun H0 σ H D E q1 q2 => h H0 σ H _ E fun v H1 k p e1 r1 => q1 _ _ _ rfl (E.on e1) (.of e1)
/-- a, b = e1, e2: data -/
theorem st_parP {i j : Nat} (h : AvP K T mo tg Γ (fun ks => ∃ d1 d2, ks = [.im d1, .im d2] ∧ N ((Γ.set i (.im d1)).set j (.im d2)))) : StP K T mo w (tPar i j tg) Γ N R := fun H0 σ H D E q1 q2 =>
  h H0 σ H _ E fun vs H1 ks p e1 r1 => by
    obtain ⟨d1, d2, rfl, hn⟩ := p
    cases r1 with
    | cons a r1 =>
      cases r1 with
      | cons b r1 =>
        cases r1
        exact ⟨_, _, rfl, q1 _ _ _ hn (((E.on e1).setIm i a.1).setIm j b.1) (.of e1)⟩
theorem st_par {i j : Nat} (h : Av K T mo tg Γ [.im d1, .im d2]) : StP K T mo w (tPar i j tg) Γ (fun Γ' => Γ' = (Γ.set i (.im d1)).set j (.im d2)) R :=
  st_parP fun H0 σ H Q E q => h H0 σ H Q E fun vs H' ks e => q vs H' ks ⟨d1, d2, e, rfl⟩
/-- a, b = e1, e2: the second a new list -/
theorem st_parF {i j : Nat} (ha : Ev K T mo ta Γ (.im d1)) (hb : Ev K T mo tb Γ (.fl ds)) : StP K T mo w (tPar i j (tCons ta (tCons tb tNil))) Γ (fun Γ' => Γ' = (Γ.set i (.im d1)).set j (.own ds)) R := fun H0 σ H D E q1 q2 =>
  ha H0 σ H _ E fun x H1 k1 p1 e1 r1 => hb H0 σ H1 _ (E.on e1) fun y H2 k2 p2 e2 r2 => by
    subst p1 p2
    have E1 := (E.on e1).setIm i r1
    exact ⟨_, _, rfl, q1 _ _ _ rfl (E1.setOwn e2 j r2) (.of (e1.trans e2))⟩
/-- the first a new list -/
theorem st_parL {i j : Nat} (ha : Ev K T mo ta Γ (.fl ds)) (hb : Ev K T mo tb Γ (.im d1)) : StP K T mo w (tPar i j (tCons ta (tCons tb tNil))) Γ (fun Γ' => Γ' = (Γ.set i (.own ds)).set j (.im d1)) R := fun H0 σ H D E q1 q2 =>
  ha H0 σ H _ E fun x H1 k1 p1 e1 r1 => hb H0 σ H1 _ (E.on e1) fun y H2 k2 p2 e2 r2 => by
    subst p1 p2
    have E1 := (E.setOwn e1 i r1).on e2
    exact ⟨_, _, rfl, q1 _ _ _ rfl (E1.setIm j r2) (.of (e1.trans e2))⟩
/-- a, b = e1, e2: two lists that are not changed here -/
theorem st_parLs {i j : Nat} {es : List D} (ha : Ev K T mo ta Γ (.ls ds)) (hb : Ev K T mo tb Γ (.ls es)) : StP K T mo w (tPar i j (tCons ta (tCons tb tNil))) Γ (fun Γ' => Γ' = (Γ.set i (.ls ds)).set j (.ls es)) R := fun H0 σ H D E q1 q2 =>
  ha H0 σ H _ E fun x H1 k1 p1 e1 r1 => hb H0 σ H1 _ (E.on e1) fun y H2 k2 p2 e2 r2 => by
    subst p1 p2
    have E1 := ((E.on e1).setAny (s := .ls ds) i (some x) rfl ⟨x, rfl, r1.any (.inl rfl)⟩).on e2
    exact ⟨_, _, rfl, q1 _ _ _ rfl (E1.setAny (s := .ls es) j (some y) rfl ⟨y, rfl, r2.any (.inl rfl)⟩) (.of (e1.trans e2))⟩
/-- three -/
theorem st_par3 {i j l : Nat} (h : Av K T mo tg Γ [.im d1, .im d2, .im d3]) : StP K T mo w (tPar3 i j l tg) Γ (fun Γ' => Γ' = ((Γ.set i (.im d1)).set j (.im d2)).set l (.im d3)) R := fun H0 σ H D E q1 q2 =>
  h H0 σ H _ E fun vs H1 ks p e1 r1 => by
    subst p
    cases r1 with
    | cons a r1 =>
      cases r1 with
      | cons b r1 =>
        cases r1 with
        | cons c r1 =>
          cases r1
          exact ⟨_, _, _, rfl, q1 _ _ _ rfl ((((E.on e1).setIm i a.1).setIm j b.1).setIm l c.1) (.of e1)⟩
/-- a, b = e, e a tuple -/
theorem st_unp {i j : Nat} (h : Ev K T mo te Γ (.im (.tup [d1, d2]))) : StP K T mo w (tAsg te (gTup K 2 (gCons (gName i) (gCons (gName j) gNil)))) Γ (fun Γ' => Γ' = (Γ.set i (.im d1)).set j (.im d2)) R := fun H0 σ H D E q1 q2 =>
  h H0 σ H _ E fun v H1 k p e1 r1 => by
    subst p
    cases r1 with
    | @tup a xs _ hs ha =>
      cases ha with
      | cons x ha =>
        cases ha with
        | cons y ha =>
          cases ha
          exact ⟨a, _, rfl, hs, rfl, _, _, rfl, _, _, rfl, rfl, q1 _ _ _ rfl (((E.on e1).setIm i x).setIm j y) (.of e1)⟩
theorem st_ifP (h : TvP K T mo tt Γ B) (h1 : B true → StP K T mo w ts Γ N R) (h2 : B false → StP K T mo w tu Γ N R) : StP K T mo w (tIfS tt ts tu) Γ N R := fun H0 σ H D E q1 q2 =>
  h H0 σ H _ E fun z H1 p e => by
    cases z with
    | true => exact h1 p H0 σ H1 D (E.on e) (fun Γ' σ' H' z E' s' => q1 Γ' σ' H' z E' ((Stay.of e).trans s')) q2
    | false => exact h2 p H0 σ H1 D (E.on e) (fun Γ' σ' H' z E' s' => q1 Γ' σ' H' z E' ((Stay.of e).trans s')) q2
theorem st_if (h : Tv K T mo tt Γ b) (h1 : b = true → StP K T mo w ts Γ N R) (h2 : b = false → StP K T mo w tu Γ N R) : StP K T mo w (tIfS tt ts tu) Γ N R := st_ifP h (fun z => h1 z.symm) fun z => h2 z.symm
/-- a test whose answer is known -/
theorem st_yes (h : Tv K T mo tt Γ true) (h1 : StP K T mo w ts Γ N R) : StP K T mo w (tIfS tt ts tu) Γ N R := st_if h (fun _ => h1) fun z => by cases z
theorem st_no (h : Tv K T mo tt Γ false) (h1 : StP K T mo w tu Γ N R) : StP K T mo w (tIfS tt ts tu) Γ N R := st_if h (fun z => by cases z) fun _ => h1
/-- for: I by the turn -/
theorem st_forP {w' : Bool} (hi : IterP K T mo w' wi g js Γ n up) (hw : w = true → w' = true) (I : Nat → List Slot → Prop) (h0 : I 0 Γ) (hs : ∀ i Γ', i < n → I i Γ' → StP K T mo w ts (up i Γ') (I (i + 1)) R) (hd : ∀ Γ', I n Γ' → N Γ') :
    StP K T mo w (tFor wi g ts) Γ N R := fun H0 σ H D E q1 q2 => hi H0 σ H _ E fun J H1 G e1 hG hgo hstop hy => by
  refine for_it (J := J) (n := n) (G := G) (Y := fun i H x H' => J.yld i H x H') ⟨fun i H' a b => hgo i H' a b, hstop, fun _ _ _ _ _ _ y => y⟩
    (fun i σ' H' => ∃ Γ', I i Γ' ∧ EnvOk K T mo H0 H' σ' Γ' ∧ Stay T mo w H1 H') ⟨Γ, h0, E.on e1, .of LeM.refl⟩ (fun i σ' H' _ ⟨_, _, _, s⟩ => hG H' (s.weak hw)) (fun i x σ' H' H'' hi' p y => ?_) (fun σ' H' p => ?_)
  · obtain ⟨Γ', p1, p2, p3⟩ := p
    obtain ⟨ly, hg⟩ := hy i H' x H'' hi' (hG H' (p3.weak hw)) y
    refine hg H0 σ' Γ' _ (p2.on ly) fun σ2 E2 _ => ?_
    exact hs i Γ' hi' p1 H0 σ2 H'' { D with nx := _, ct := _, bk := _ } E2 (fun Γ3 σ3 H3 z E3 s3 => ⟨Γ3, z, E3, (p3.trans (.of ly)).trans s3⟩) q2
  · obtain ⟨Γ', p1, p2, p3⟩ := p
    exact q1 Γ' σ' H' (hd Γ' p1) p2 ((Stay.of e1).trans p3)
/-- the slots told as a function of the turn -/
theorem st_for {w' : Bool} (hi : IterP K T mo w' wi g js Γ n up) (hw : w = true → w' = true) (G : Nat → List Slot) (h0 : G 0 = Γ) (hs : ∀ i, i < n → StP K T mo w ts (up i (G i)) (fun Γ' => Γ' = G (i + 1)) R) :
    StP K T mo w (tFor wi g ts) Γ (fun Γ' => Γ' = G n) R :=
  st_forP hi hw (fun i Γ' => Γ' = G i) h0.symm (fun i Γ' h e => e ▸ hs i h) fun _ e => e
/-- while: I by what is left, m0 at first -/
theorem st_whileP (I : Nat → List Slot → Prop) (m0 : Nat) (h0 : I m0 Γ) (hs : ∀ m Γ', I m Γ' → ∃ b, Tv K T mo tt Γ' b ∧ (b = true → StP K T mo w ts Γ' (fun Γ2 => ∃ m', m' < m ∧ I m' Γ2) R) ∧ (b = false → N Γ')) :
    StP K T mo w (tWhile tt ts) Γ N R := fun H0 σ H D E q1 q2 => by
  refine ⟨fun m σ' H' => ∃ Γ', I m Γ' ∧ EnvOk K T mo H0 H' σ' Γ' ∧ Stay T mo w H H', ⟨m0, Γ, h0, E, .of LeM.refl⟩, fun m σ' H' p => ?_⟩
  obtain ⟨Γ', p1, p2, p3⟩ := p
  obtain ⟨b, ht, hb, hn⟩ := hs m Γ' p1
  refine ht H0 σ' H' _ p2 fun c H1 hc e1 => ?_
  subst hc
  cases c with
  | true =>
    show ∃ N : L2.St → Hp → Prop, _ ∧ _
    exact ⟨fun σ2 H2 => ∃ m', m' < m ∧ ∃ Γ', I m' Γ' ∧ EnvOk K T mo H0 H2 σ2 Γ' ∧ Stay T mo w H H2, fun _ _ z => z, hb rfl H0 σ' H1 { D with nx := _, ct := _, bk := _ } (p2.on e1) (fun Γ2 σ2 H2 ⟨m', hm, z⟩ E2 s2 => ⟨m', hm, Γ2, z, E2, (p3.trans (.of e1)).trans s2⟩) q2⟩
  | false => exact q1 Γ' σ' H1 (hn rfl) (p2.on e1) (p3.trans (.of e1))
theorem st_never (h : False) : StP K T mo w tNever Γ N R := h.elim
end

/-! ### lists of one's own -/
section
variable {K : PySem.W.Frag} {T : List NTab} {mo : Option Addr} {te ta tb ti : TE} {Γ : List Slot} {N : List Slot → Prop} {R : Kd → Prop} {d : D} {ds : List D} {P : Kd → Prop} {H0 H : Hp} {σ : L2.St} {a : Addr} {xs ys : List V}
/-- lists that others made are forgotten when one's own list is written -/
def scrub (Γ : List Slot) : List Slot := Γ.map fun s => match s with
  | .ls _ => .none
  | s => s
theorem scrub_get {i : Nat} {s : Slot} (h : (scrub Γ)[i]? = some s) : s = .none ∨ (Γ[i]? = some s ∧ ∀ ds, s ≠ .ls ds) := by
  unfold scrub at h
  rw [List.getElem?_map] at h
  cases q : Γ[i]? with
  | none =>
    rw [q] at h
    cases h
  | some t =>
    rw [q] at h
    cases t <;> first | exact .inl (Option.some.inj h).symm | exact .inr ⟨h, fun _ z => by rw [z] at h; cases h⟩
theorem EnvOk.putOwn (E : EnvOk K T mo H0 H σ Γ) {i : Nat} (hi : Γ[i]? = some (.own ds)) (hs : σ[i]? = some (some (.ref a))) {es : List D} (hl : H a = some (.lst xs)) (hr : RpA K H ys es) :
    EnvOk K T mo H0 (upd H a (.lst ys)) σ ((scrub Γ).set i (.own es)) := by
  obtain ⟨a', xs', g1, g2, g3, g4, g5⟩ := E.sl i _ hi
  rw [hs] at g1
  cases g1
  have t : TupLe H (upd H a (.lst ys)) := tup_upd hl (fun _ z => nomatch z) (fun _ _ z => nomatch z)
  have lenS : (scrub Γ).length = Γ.length := by unfold scrub; simp
  have oi : OwnAt Γ σ i a := ⟨⟨_, hi, rfl⟩, hs⟩
  refine ⟨E.le.mut g2 g3 hl, fun b q => ?_, tabs_upd hl E.tb, by simp [E.len, lenS], fun j s hj => ?_, fun p q b n h1 h2 => ?_⟩
  · obtain ⟨x, y, z, h1, h2, h3, h4⟩ := E.wl b q
    exact ⟨x, y, z, h1, h2, h3, by rw [upd_ne (fun e => g3 (by rw [← e]; exact q))]; exact h4⟩
  · by_cases e : i = j
    · subst e
      have hi' : i < (scrub Γ).length := by rw [lenS]; exact (List.getElem?_eq_some_iff.mp hi).1
      rw [List.getElem?_set_self hi'] at hj
      cases hj
      exact ⟨a, ys, hs, g2, g3, upd_same, hr.mono t⟩
    · rw [List.getElem?_set_ne e] at hj
      rcases scrub_get hj with z | ⟨z1, z2⟩
      · subst z
        trivial
      · have q := E.sl j s z1
        cases s with
        | none => trivial
        | im d => obtain ⟨v, q1, q2⟩ := q; exact ⟨v, q1, q2.mono t⟩
        | par k => exact q
        | ls ds => exact absurd rfl (z2 ds)
        | own ds' =>
          obtain ⟨c, us, q1, q2, q3, q4, q5⟩ := q
          have nc : c ≠ a := fun z => E.dj i j a e oi ⟨⟨_, z1, rfl⟩, by rw [← z]; exact q1⟩
          exact ⟨c, us, q1, q2, q3, by rw [upd_ne nc]; exact q4, q5.mono t⟩
        | od kvs =>
          obtain ⟨c, us, q1, q2, q3, q4, q5⟩ := q
          have nc : c ≠ a := ne_of q4 hl (fun z => nomatch z)
          exact ⟨c, us, q1, q2, q3, by rw [upd_ne nc]; exact q4, q5.mono t⟩
        | rg lo hi' =>
          obtain ⟨v, q1, c, q2, q3, q4⟩ := q
          have nc : c ≠ a := ne_of q4 hl (fun z => nomatch z)
          exact ⟨v, q1, c, q2, q3, by rw [upd_ne nc]; exact q4⟩
  · have at_ : ∀ p, OwnAt ((scrub Γ).set i (.own es)) σ p b → OwnAt Γ σ p b := fun p ⟨⟨s, y1, y2⟩, y3⟩ => by
      by_cases e : i = p
      · subst e
        exact ⟨⟨_, hi, rfl⟩, y3⟩
      · rw [List.getElem?_set_ne e] at y1
        rcases scrub_get y1 with z | ⟨z1, z2⟩
        · subst z
          cases y2
        · exact ⟨⟨s, z1, y2⟩, y3⟩
    exact E.dj p q b n (at_ p h1) (at_ q h2)
theorem EnvOk.own (E : EnvOk K T mo H0 H σ Γ) {i : Nat} (hi : Γ[i]? = some (.own ds)) : ∃ a xs, σ[i]? = some (some (.ref a)) ∧ mo ≠ some a ∧ H a = some (.lst xs) ∧ RpA K H xs ds := by
  obtain ⟨a, xs, h1, _, h3, h4, h5⟩ := E.sl i _ hi
  exact ⟨a, xs, h1, h3, h4, h5⟩
/-- name.append(e) -/
theorem st_appP {i : Nat} (hi : Γ[i]? = some (.own ds)) (hl : ds.length ≤ 10000) (h : EvP K T mo te Γ P) (hp : ∀ k, P k → ∃ d, k = .im d ∧ N ((scrub Γ).set i (.own (ds ++ [d])))) :
    StP K T mo true (tDrop (tBM K "list" rAppend (tVar i) (tCons te tNil))) Γ N R := fun H0 σ H D E q1 q2 => by
  obtain ⟨a, xs, h1, h2, h3, h4⟩ := E.own hi
  refine ⟨.ref a, h1, Or.inl ⟨rfl, _, .of h3⟩, ?_⟩
  refine h H0 σ H _ E fun v H1 k p e1 r1 => ?_
  obtain ⟨d, rfl, hn⟩ := hp k p
  have h31 := e1.lst h2 h3
  have h41 := h4.mono e1.tup
  refine ⟨a, xs, v, rfl, rfl, h31, by rw [h4.length, sizeLine_eq]; omega, ?_⟩
  exact q1 _ _ _ hn ((E.on e1).putOwn hi h1 h31 (h41.append (.cons r1 .nil))) (e1.tup.trans (tup_upd h31 (fun _ z => nomatch z) (fun _ _ z => nomatch z)))
theorem st_app {i : Nat} (hi : Γ[i]? = some (.own ds)) (hl : ds.length ≤ 10000) (h : Ev K T mo te Γ (.im d)) : StP K T mo true (tDrop (tBM K "list" rAppend (tVar i) (tCons te tNil))) Γ (fun Γ' => Γ' = (scrub Γ).set i (.own (ds ++ [d]))) R :=
  st_appP hi hl h fun k e => ⟨d, e, rfl⟩
theorem ixN_ofNat {n j : Nat} (h : j < n) : ixN n ((j : Nat) : Int) = some j := by
  unfold ixN
  rw [if_pos (by omega), if_pos (by omega)]
  simp
/-- name[j] = e -/
theorem st_putP {i j : Nat} (hi : Γ[i]? = some (.own ds)) (h : EvP K T mo te Γ P) (hp : ∀ k, P k → ∃ d, k = .im d ∧ N ((scrub Γ).set i (.own (ds.set j d)))) (hj : Ev K T mo ti Γ (.im (.int ((j : Nat) : Int)))) (hlt : j < ds.length) :
    StP K T mo true (tAsg te (gSub (tVar i) ti rSetL)) Γ N R := fun H0 σ H D E q1 q2 =>
  h H0 σ H _ E fun v H1 k p e1 r1 => by
    obtain ⟨d, rfl, hn⟩ := hp k p
    obtain ⟨a, xs, h1, h2, h3, h4⟩ := (E.on e1).own hi
    refine ⟨.ref a, h1, ?_⟩
    refine hj H0 σ H1 _ (E.on e1) fun u H2 k2 p2 e2 r2 => ?_
    subst p2
    cases r2
    have h32 := e2.lst h2 h3
    have h42 := h4.mono e2.tup
    refine ⟨a, xs, _, j, rfl, rfl, h32, ixN_ofNat (by rw [h4.length]; exact hlt), ?_⟩
    exact q1 _ _ _ hn (((E.on e1).on e2).putOwn hi h1 h32 (h42.set j (r1.mono e2.tup))) ((e1.trans e2).tup.trans (tup_upd h32 (fun _ z => nomatch z) (fun _ _ z => nomatch z)))
theorem st_put {i j : Nat} (hi : Γ[i]? = some (.own ds)) (h : Ev K T mo te Γ (.im d)) (hj : Ev K T mo ti Γ (.im (.int ((j : Nat) : Int)))) (hlt : j < ds.length) :
    StP K T mo true (tAsg te (gSub (tVar i) ti rSetL)) Γ (fun Γ' => Γ' = (scrub Γ).set i (.own (ds.set j d))) R := st_putP hi h (fun k e => ⟨d, e, rfl⟩) hj hlt
end
end Hn
end

section
set_option Elab.async false
set_option linter.all false
set_option maxRecDepth 100000
set_option maxHeartbeats 4000000
namespace Hn
open PySem PySem.Spec PyProof.Rows L2 NdefX LamX

/-! ### defs that are entered while no repr runs -/
/-- a def's promise, asked where no repr is under way; no exception leaves it -/
structure FnG (P : Program) (w : World) (K : PySem.W.Frag) (mg : Str → Option Value) (base : Heap) (k : Nat) (f : Addr) (fd : FuncData) (ps : List Str) (sp : Sp) : Prop where
  len : ∀ vs H Q, sp vs H Q E0 → vs.length = ps.length
  run : ∀ (A : Around) (outer : List Env) (s : Shared) (H : Hp) (args : Args) (us : List Value) (vs : List V) (Q : VK), Room k A → A.guards = some [] → Env0 P w K mg base A outer s H →
    BindsTo s fd args (ps.zip us) → Vals vs us → sp vs H Q E0 → codeAny (model P w) A (.call (.ref f) args) (CR CX0 outer P w H s Q E0) s
theorem FnG.mono {P : Program} {w : World} {K : PySem.W.Frag} {mg : Str → Option Value} {base : Heap} {j k : Nat} {f : Addr} {fd : FuncData} {ps : List Str} {sp : Sp} (F : FnG P w K mg base j f fd ps sp) (h : j ≤ k) : FnG P w K mg base k f fd ps sp :=
  ⟨F.len, fun A outer s H args us vs Q hr hg => F.run A outer s H args us vs Q (hr.mono h) hg⟩
/-- the context of a def's body where nothing may be raised -/
abbrev bodyCx (P : Program) (w : World) (K : PySem.W.Frag) (mg : Str → Option Value) (base : Heap) (N : List Str) (q : Str) (st : Stmt) (f : Addr) (cdv : Value) (A : Around) (outer : List Env) (s : Shared) (H : Hp) : Cx :=
  (cxOf CX0 P w K mg base N q (defScope st) f cdv A outer s H E0).nox
theorem fnG_exp {P : Program} {w : World} {K : PySem.W.Frag} {mg : Str → Option Value} {base : Heap} {x q : Str} {st : Stmt} {f : Addr} {fd : FuncData} {N ps : List Str} {k : Nat} {sp : Sp} {oc : Value} {od an : Option Addr} {kV doc pm cdv ct : Value} {osl : Array (Option Value)}
    (he : fd = PySem.W.fnOf x q (defArgs st) (defBody st) (defScope st) .none kV doc pm an cdv ct) (look : K.lookup f = some ⟨oc, od, .func fd, osl⟩) (code : PySem.W.codeIn K cdv q = true) (S : FnScope N ps (defScope st)) (len : ∀ vs H Q, sp vs H Q E0 → vs.length = ps.length)
    (body : ∀ (A : Around) (outer : List Env) (s : Shared) (H : Hp) (vs : List V) (Q : VK), Room k (A.deeper (envOfC q (defScope st) s.heap.objs.size f cdv)) → A.guards = some [] → sp vs H Q E0 →
      ∃ t, PSs (bodyCx P w K mg base N q st f cdv A outer s H) (defBody st) t ∧ t { nx := fun _ H' => Q .non H', rt := Q } (start N vs) H) : FnG P w K mg base (k + 1) f fd ps sp where
  len := len
  run := by
    intro A outer s H args us vs Q room gd e0 hb rel hsp
    subst he
    have Ks : K.In s.heap := e0.mod.kin.keeps (fun b o e => (e0.bs b o e).1)
    have NL : s.heap.NoLimit := e0.mod.nolimit.keeps (fun b o e => (e0.bs b o e).1)
    have params : ∀ y, y ∈ ps.zip us → (defScope st).names.lookup y.1 = some .local ∨ ((defScope st).names.lookup y.1 = some .cell ∧ ((cellsFrom (s.heap.objs.size + 1) (defScope st).names []).lookup y.1).isSome = true) := by
      intro ⟨y1, y2⟩ hy
      cases S.par y1 (List.of_mem_zip hy).1 with
      | inl l => exact .inl l
      | inr c => exact .inr ⟨c, PySem.W.cellsFrom_some _ _ _ (.inl c)⟩
    apply codeAny_call_function room.depth (Ks _ _ look) rfl S.co S.gen rfl (PySem.W.codeRec_of Ks code)
    apply hb
    apply wpAny_newFunctionEnv_cells S.kind params
    intro env ee s1 made
    subst ee
    refine ⟨NL.keeps made.toInCall.keep, codeAny_func ?_⟩
    obtain ⟨t, ht, hq⟩ := body A outer s H vs Q (room.deeper _) gd hsp
    have I := inv_start (CX := CX0) (E := E0) S room.hd e0 (len _ _ _ hsp) rel made
    refine wpAny_mono (ht.nox.run [] s1 (start N vs) H _ I hq) (fun fl s' z => ?_) (fun _ _ z => z)
    match fl, z with
    | .ret u, ⟨v, σ', H', J, rv, q⟩ => exact ⟨v, H', J.os, J.bare, J.base, J.hok, rv, q⟩
    | .next, ⟨σ', H', J, q⟩ => exact ⟨V.non, H', J.os, J.bare, J.base, J.hok, rfl, q⟩
    | .brk, ⟨_, _, _, q⟩ => exact q.elim
    | .cont, ⟨_, _, _, q⟩ => exact q.elim

theorem fnG_of {P : Program} {w : World} {K : PySem.W.Frag} {mg : Str → Option Value} {base : Heap} {x q : Str} {st : Stmt} {f : Addr} {fd : FuncData} {N ps : List Str} {k : Nat} {sp : Sp}
    (F : Fun K x q st f fd) (S : FnScope N ps (defScope st)) (len : ∀ vs H Q, sp vs H Q E0 → vs.length = ps.length)
    (body : ∀ (cdv : Value) (A : Around) (outer : List Env) (s : Shared) (H : Hp) (vs : List V) (Q : VK), Room k (A.deeper (envOfC q (defScope st) s.heap.objs.size f cdv)) → A.guards = some [] → sp vs H Q E0 →
      ∃ t, PSs (bodyCx P w K mg base N q st f cdv A outer s H) (defBody st) t ∧ t { nx := fun _ H' => Q .non H', rt := Q } (start N vs) H) : FnG P w K mg base (k + 1) f fd ps sp := by
  obtain ⟨oc, od, kV, doc, pm, an, cdv, ct, osl, he, look, code⟩ := F.ex
  exact fnG_exp he look code S len fun A outer s H vs Q => body cdv A outer s H vs Q

section
variable {X : Cx} {k : Nat} {f : Addr} {fd : FuncData} {ps : List Str} {sp : Sp} {x : Str} {p pos : Pos} {e : Expr} {es : List Expr} {t tk : TA}
/-- what a call comes to -/
theorem callee {pins : List (Addr × Obj)} {σ : L2.St} {H : Hp} {s : Shared} {Q : VK} {args : Args} {us : List Value} {vs : List V} (F : FnG X.prog X.w X.K X.mg X.base k f fd ps sp) (hr : Room k X.A) (gd : X.A.guards = some [])
    (hb : BindsTo s fd args (ps.zip us)) (I : Inv X pins σ H s) (r : Vals vs us) (h : sp vs H Q E0) : wpAny (model X.prog X.w) X.A (PySem.call (.ref f) args.pos args.kw) (EP X pins σ Q) X.xe s := by
  apply wpAny_call
  refine codeAny_mono (F.run X.A X.stack s H args us vs Q hr gd I.env0 hb r h) (fun res s' z => ?_)
  match res, z with
  | .error _, z => exact (show False from z).elim
  | .ok (.ret u), z => exact I.after z
  | .ok .next, z => exact (show False from z).elim
  | .ok .brk, z => exact (show False from z).elim
  | .ok .cont, z => exact (show False from z).elim
/-- f(e, ..) -/
theorem pe_fn (F : FnG X.prog X.w X.K X.mg X.base k f fd ps sp) (hr : Room k X.A) (gd : X.A.guards = some []) (hg : Gl X x) (hm : X.mg x = some (.ref f)) (hk : PySem.W.keepIn X.K (.ref f) = true) (hb : Binds X.K fd ps [])
    (ha : PA X (e :: es) t) (hdb : (x == ("__debug__" : Str)) = false := by decide) (he : starEach (e :: es) X.env = (false, eval e X.env) :: starEach es X.env := by rfl) (hpl : (backTo pos (starEach es X.env)).any (·.1) = false := by rfl) :
    PE X (.Call (.Name x p) (e :: es) [] pos) (tCall sp [] E0 t) where
  run := by
    intro pins s σ H Q I h
    apply wpAny_Call_Name_kw
    apply ld_glob I hg hm _ hdb
    apply PySem.W.callWith_K (h₀ := X.base) I.ok.mod.kin hk _ he hpl
    refine wpAny_mono (ha.run pos pins s σ H _ I h) (fun us s1 z => ?_) (fun _ _ z => z)
    obtain ⟨vs, H1, I1, r, q⟩ := z
    refine ⟨I1.kIn, ?_⟩
    have q : sp vs H1 Q E0 := by
      have z : sp (vs ++ []) H1 Q E0 := q
      rw [List.append_nil] at z
      exact z
    have hl : us.length = ps.length := by rw [← r.length]; exact F.len _ _ _ q
    have bd := hb s1 us I1.kIn (by rw [List.append_nil]; exact hl)
    rw [List.append_nil] at bd
    exact callee F hr gd bd I1 r q
end
end Hn
end

section
set_option Elab.async false
set_option linter.all false
set_option maxRecDepth 100000
set_option maxHeartbeats 4000000
namespace Hn
open PySem PySem.Spec PyProof.Rows L2 NdefX LamX

/-- the promise of a def: the arguments' kinds, what may come back -/
def Prm (K : PySem.W.Frag) (T : List NTab) (mo : Option Addr) (spec : List Kd → (Kd → Prop) → Prop) : Sp := fun vs H Q _ =>
  TabsN T H ∧ Wl mo H ∧ ∃ ks P, KrA K mo H vs ks ∧ spec ks P ∧ ∀ v H' k, P k → LeM T mo H H' → Kr K mo H H' v k → Q v H'
/-- one answer -/
def DSpec (R : List Kd → Kd → Prop) : List Kd → (Kd → Prop) → Prop := fun ks P => ∃ k, R ks k ∧ k.ret = true ∧ ks.all Kd.arg = true ∧ P = fun k' => k' = k
/-- the promise of a def that draws: there is a well -/
def PrW (K : PySem.W.Frag) (T : List NTab) (spec : List Kd → (Kd → Prop) → Prop) : Sp := fun vs H Q E => ∃ w, Prm K T (some w) spec vs H Q E

/-- a def as it stands behind the top -/
def Fg (K : PySem.W.Frag) (mg : Str → Option Value) (x : Str) (st : Stmt) : Prop := ∃ f fd, mg x = some (.ref f) ∧ Fun K x x st f fd

/-- the module's name x, the def st, keeps the promise -/
def GFn (P : Program) (w : World) (K : PySem.W.Frag) (mg : Str → Option Value) (base : Heap) (x : Str) (st : Stmt) (ps : List Str) (k : Nat) (sp : Sp) : Prop :=
  ∃ f fd, mg x = some (.ref f) ∧ FnG P w K mg base k f fd ps sp ∧ Fun K x x st f fd ∧ Binds K fd ps []
abbrev PFn (P : Program) (w : World) (K : PySem.W.Frag) (mg : Str → Option Value) (base : Heap) (T : List NTab) (x : Str) (st : Stmt) (ps : List Str) (k : Nat) (R : List Kd → Kd → Prop) : Prop := GFn P w K mg base x st ps k (Prm K T none (DSpec R))
abbrev WFn (P : Program) (w : World) (K : PySem.W.Frag) (mg : Str → Option Value) (base : Heap) (T : List NTab) (x : Str) (st : Stmt) (ps : List Str) (k : Nat) (spec : List Kd → (Kd → Prop) → Prop) : Prop := GFn P w K mg base x st ps k (PrW K T spec)

section
variable {X : Cx} {T : List NTab} {k j : Nat} {ps : List Str} {sp : Sp} {x : Str} {st : Stmt} {p pos : Pos} {e : Expr} {es : List Expr} {t tk : TA} {kws : List Keyword} {ks : List Str}
/-- f(e, ..) -/
theorem pe_gf (G : GFn X.prog X.w X.K X.mg X.base x st ps j sp) (hr : Room k X.A) (hj : j ≤ k) (gd : X.A.guards = some []) (hg : Gl X x)
    (ha : PA X (e :: es) t) (hdb : (x == ("__debug__" : Str)) = false := by decide) (he : starEach (e :: es) X.env = (false, eval e X.env) :: starEach es X.env := by rfl) (hpl : (backTo pos (starEach es X.env)).any (·.1) = false := by rfl) :
    PE X (.Call (.Name x p) (e :: es) [] pos) (tCall sp [] E0 t) := by
  obtain ⟨f, fd, hm, F, hf, hb⟩ := G
  exact pe_fn F (hr.mono hj) gd hg hm hf.kp hb ha hdb he hpl
/-- f(k = e, ..): the values of the keywords, put into the parameters' order by g -/
def tCallKw (sp : Sp) (g : List V → List V) (tk : TA) : TE := fun σ H Q => tk σ H fun zs H1 => sp (g zs) H1 Q E0
theorem pe_gfK (G : GFn X.prog X.w X.K X.mg X.base x st ps j sp) (hr : Room k X.A) (hj : j ≤ k) (gd : X.A.guards = some []) (hg : Gl X x) {g : ∀ {α : Type}, List α → List α}
    (hb : ∀ (kV doc pm : Value) (an : Option Addr) (cdv ct : Value) (ws : List Value), ws.length = ks.length → bindArgs (PySem.W.fnOf x x (defArgs st) (defBody st) (defScope st) .none kV doc pm an cdv ct) ⟨[], ks.zip ws⟩ = pure (ps.zip (g ws)) ∧ (g ws).length = ps.length)
    (hv : ∀ {vs : List V} {us : List Value}, us.length = ks.length → Vals vs us → Vals (g vs) (g us)) (hn : ks.length = kws.length)
    (hkw : PK X kws tk) (hall : (backToKw pos (keywordEach kws X.env)).all (·.1.isSome) = true := by rfl) (hks : (backToKw pos (keywordEach kws X.env)).filterMap (·.1) = ks := by rfl)
    (hlen : ∀ σ H Q, tk σ H Q → tk σ H fun vs H' => vs.length = ks.length ∧ Q vs H')
    (hdb : (x == ("__debug__" : Str)) = false := by decide) (hpl : ((backTo pos (starEach [] X.env)).any (·.1) || (backToKw pos (keywordEach kws X.env)).any (·.1.isNone)) = false := by rfl) :
    PE X (.Call (.Name x p) [] kws pos) (tCallKw sp g tk) where
  run := by
    intro pins s σ H Q I h
    obtain ⟨f, fd, hm, F, hf, _⟩ := G
    apply wpAny_Call_Name_kw
    apply ld_glob I hg hm _ hdb
    refine PySem.W.callWith_KW0 (h₀ := X.base) I.ok.mod.kin hf.kp hall ?_ hpl
    refine wpAny_mono (hkw.run pos pins s σ H _ I (hlen σ H _ h)) (fun us s1 z => ?_) (fun _ _ z => z)
    obtain ⟨vs, H1, I1, r, hl, q⟩ := z
    have hu : us.length = ks.length := by rw [← r.length]; exact hl
    refine ⟨I1.kIn, ?_⟩
    rw [hks]
    obtain ⟨oc, od, kV, doc, pm, an, cdv, ct, osl, rfl, _, _⟩ := hf.ex
    obtain ⟨b1, b2⟩ := hb kV doc pm an cdv ct us hu
    exact callee (args := ⟨[], ks.zip us⟩) F (hr.mono hj) gd (.of_eq b1) I1 (hv hu r) q
end

/-- the slot of a parameter -/
def Kd.pslot : Kd → Slot
  | .im d => .im d
  | k => .par k
section
variable {K : PySem.W.Frag} {T : List NTab} {mo : Option Addr} {H : Hp} {N : List Str} {vs : List V} {ks : List Kd}
theorem KrA.get : ∀ {vs : List V} {ks : List Kd} {i : Nat} {k : Kd}, KrA K mo H vs ks → ks[i]? = some k → ∃ v, vs[i]? = some v ∧ Kr K mo H H v k ∧ (k.arg = true ∨ k = .wl)
  | _, _, 0, _, .cons h _, e => by simp at e; subst e; exact ⟨_, rfl, h⟩
  | _, _, i + 1, _, .cons _ t, e => by
    obtain ⟨v, h1, h2⟩ := KrA.get (i := i) t (by simpa using e)
    exact ⟨v, by simpa using h1, h2⟩
theorem KrA.length : ∀ {vs : List V} {ks : List Kd}, KrA K mo H vs ks → vs.length = ks.length
  | _, _, .nil => rfl
  | _, _, .cons _ t => congrArg (· + 1) (KrA.length t)
theorem pslot_own (k : Kd) : k.pslot.isOwn = false := by cases k <;> rfl
theorem start_ok (r : KrA K mo H vs ks) (tb : TabsN T H) (wl : Wl mo H) : EnvOk K T mo H H (L2.start N vs) (ks.map Kd.pslot ++ List.replicate (N.length - ks.length) .none) := by
  have hl := r.length
  have notOwn : ∀ (i : Nat) (s : Slot), (ks.map Kd.pslot ++ List.replicate (N.length - ks.length) .none)[i]? = some s → s.isOwn = true → False := fun i s h o => by
    by_cases hi : i < ks.length
    · rw [List.getElem?_append_left (by simpa using hi), List.getElem?_map, List.getElem?_eq_getElem hi] at h
      have h := Option.some.inj h
      rw [← h, pslot_own] at o
      cases o
    · rw [List.getElem?_append_right (by simpa using hi), List.getElem?_replicate] at h
      split at h
      · cases h
        cases o
      · cases h
  refine ⟨LeM.refl, wl, tb, ?_, fun i s hi => ?_, fun i j a _ ⟨⟨s, h1, h2⟩, _⟩ _ => notOwn i s h1 h2⟩
  · unfold L2.start
    simp [hl]
  · by_cases h : i < ks.length
    · rw [List.getElem?_append_left (by simpa using h), List.getElem?_map, List.getElem?_eq_getElem h] at hi
      have hi := Option.some.inj hi
      subst hi
      obtain ⟨v, h1, h2, h3⟩ := r.get (List.getElem?_eq_getElem h)
      have hv : (L2.start N vs)[i]? = some (some v) := by
        unfold L2.start
        rw [List.getElem?_append_left (by rw [List.length_map, hl]; exact h), List.getElem?_map, h1]
        rfl
      cases q : ks[i] with
      | im d => rw [q] at h2; exact ⟨v, hv, h2⟩
      | fl ds => rw [q] at h3; rcases h3 with z | z <;> cases z
      | ls ds => rw [q] at h2 h3; exact ⟨v, hv, h2, h3⟩
      | dc ds => rw [q] at h2 h3; exact ⟨v, hv, h2, h3⟩
      | rg lo hi => rw [q] at h2 h3; exact ⟨v, hv, h2, h3⟩
      | wl => rw [q] at h2 h3; exact ⟨v, hv, h2, h3⟩
      | cl f c q' u k => rw [q] at h2 h3; exact ⟨v, hv, h2, h3⟩
    · rw [List.getElem?_append_right (by simpa using h), List.getElem?_replicate] at hi
      split at hi
      · cases hi
        trivial
      · cases hi
end

section
variable {P : Program} {w : World} {K : PySem.W.Frag} {mg : Str → Option Value} {base : Heap} {T : List NTab} {x : Str} {st : Stmt} {N ps : List Str} {k : Nat} {R : List Kd → Kd → Prop} {spec : List Kd → (Kd → Prop) → Prop}
/-- THE RULE for a def that changes nothing -/
theorem pf_of (F : Fg K mg x st) (S : FnScope N ps (defScope st)) (len : ∀ ks k, R ks k → ks.length = ps.length)
    (hb : ∀ (kV doc pm : Value) (an : Option Addr) (cdv ct : Value) (us : List Value), us.length = ps.length → bindArgs (PySem.W.fnOf x x (defArgs st) (defBody st) (defScope st) .none kV doc pm an cdv ct) ⟨us, []⟩ = pure (ps.zip us))
    (body : ∀ (f : Addr) (cdv : Value) (A : Around) (outer : List Env) (s : Shared) (H : Hp), Room k (A.deeper (envOfC x (defScope st) s.heap.objs.size f cdv)) → A.guards = some [] →
      ∃ t, PSs (bodyCx P w K mg base N x st f cdv A outer s H) (defBody st) t ∧
        ∀ ks k, R ks k → StP K T none true t (ks.map Kd.pslot ++ List.replicate (N.length - ks.length) .none) (fun _ => k = .im .non) (fun k' => k' = k)) : PFn P w K mg base T x st ps (k + 1) R := by
  obtain ⟨f, fd, hm, F⟩ := F
  refine ⟨f, fd, hm, fnG_of F S (fun vs H Q h => ?_) (fun cdv A outer s H vs Q hr gd h => ?_), F, F.binds hb⟩
  · obtain ⟨_, _, ks, P, h1, ⟨k, h2, _⟩, _⟩ := h
    rw [KrA.length h1]
    exact len ks k h2
  · obtain ⟨tb, wl, ks, P, h1, ⟨k, h2, hret, _, e⟩, q⟩ := h
    obtain ⟨t, ht, hs⟩ := body f cdv A outer s H hr gd
    subst e
    refine ⟨t, ht, hs ks k h2 H _ H _ (start_ok h1 tb wl) (fun Γ' σ' H' z E' _ => ?_) (fun v H' k' z e' r' => q v H' k' z e' r')⟩
    exact q .non H' k rfl E'.le (by rw [z]; exact .non)
/-- the def's code object is known -/
def FgC (K : PySem.W.Frag) (mg : Str → Option Value) (x : Str) (st : Stmt) (c : Addr) : Prop := ∃ f fd, mg x = some (.ref f) ∧ Fun K x x st f fd ∧
  ∃ (oc : Value) (od : Option Addr) (kV doc pm : Value) (an : Option Addr) (ct : Value) (osl : Array (Option Value)), fd = PySem.W.fnOf x x (defArgs st) (defBody st) (defScope st) .none kV doc pm an (.ref c) ct ∧ K.lookup f = some ⟨oc, od, .func fd, osl⟩ ∧ PySem.W.codeIn K (.ref c) x = true
theorem pf_ofC {c : Addr} (F : FgC K mg x st c) (S : FnScope N ps (defScope st)) (len : ∀ ks k, R ks k → ks.length = ps.length)
    (hb : ∀ (kV doc pm : Value) (an : Option Addr) (cdv ct : Value) (us : List Value), us.length = ps.length → bindArgs (PySem.W.fnOf x x (defArgs st) (defBody st) (defScope st) .none kV doc pm an cdv ct) ⟨us, []⟩ = pure (ps.zip us))
    (body : ∀ (f : Addr) (A : Around) (outer : List Env) (s : Shared) (H : Hp), Room k (A.deeper (envOfC x (defScope st) s.heap.objs.size f (.ref c))) → A.guards = some [] →
      ∃ t, PSs (bodyCx P w K mg base N x st f (.ref c) A outer s H) (defBody st) t ∧
        ∀ ks k, R ks k → StP K T none true t (ks.map Kd.pslot ++ List.replicate (N.length - ks.length) .none) (fun _ => k = .im .non) (fun k' => k' = k)) : PFn P w K mg base T x st ps (k + 1) R := by
  obtain ⟨f, fd, hm, F, oc, od, kV, doc, pm, an, ct, osl, he, look, code⟩ := F
  refine ⟨f, fd, hm, fnG_exp he look code S (fun vs H Q h => ?_) (fun A outer s H vs Q hr gd h => ?_), F, F.binds hb⟩
  · obtain ⟨_, _, ks, P, h1, ⟨k, h2, _⟩, _⟩ := h
    rw [KrA.length h1]
    exact len ks k h2
  · obtain ⟨tb, wl, ks, P, h1, ⟨k, h2, hret, _, e⟩, q⟩ := h
    obtain ⟨t, ht, hs⟩ := body f A outer s H hr gd
    subst e
    refine ⟨t, ht, hs ks k h2 H _ H _ (start_ok h1 tb wl) (fun Γ' σ' H' z E' _ => ?_) (fun v H' k' z e' r' => q v H' k' z e' r')⟩
    exact q .non H' k rfl E'.le (by rw [z]; exact .non)
/-- THE RULE for a def that draws -/
theorem wf_of (F : Fg K mg x st) (S : FnScope N ps (defScope st)) (len : ∀ ks P, spec ks P → ks.length = ps.length)
    (hb : ∀ (kV doc pm : Value) (an : Option Addr) (cdv ct : Value) (us : List Value), us.length = ps.length → bindArgs (PySem.W.fnOf x x (defArgs st) (defBody st) (defScope st) .none kV doc pm an cdv ct) ⟨us, []⟩ = pure (ps.zip us))
    (body : ∀ (f : Addr) (cdv : Value) (A : Around) (outer : List Env) (s : Shared) (H : Hp), Room k (A.deeper (envOfC x (defScope st) s.heap.objs.size f cdv)) → A.guards = some [] →
      ∃ t, PSs (bodyCx P w K mg base N x st f cdv A outer s H) (defBody st) t ∧
        ∀ a ks P, spec ks P → StP K T (some a) true t (ks.map Kd.pslot ++ List.replicate (N.length - ks.length) .none) (fun _ => False) P) : WFn P w K mg base T x st ps (k + 1) spec := by
  obtain ⟨f, fd, hm, F⟩ := F
  refine ⟨f, fd, hm, fnG_of F S (fun vs H Q h => ?_) (fun cdv A outer s H vs Q hr gd h => ?_), F, F.binds hb⟩
  · obtain ⟨_, _, _, ks, P, h1, h2, _⟩ := h
    rw [KrA.length h1]
    exact len ks P h2
  · obtain ⟨a, tb, wl, ks, P, h1, h2, q⟩ := h
    obtain ⟨t, ht, hs⟩ := body f cdv A outer s H hr gd
    exact ⟨t, ht, hs a ks P h2 H _ H _ (start_ok h1 tb wl) (fun _ _ _ z _ _ => z.elim) (fun v H' k' z e' r' => q v H' k' z e' r')⟩
end

section
variable {K : PySem.W.Frag} {T : List NTab} {mo : Option Addr} {tg : TA} {Γ : List Slot} {k : Kd} {P : Kd → Prop} {ks : List Kd} {R : List Kd → Kd → Prop} {spec : List Kd → (Kd → Prop) → Prop}
theorem KrA.down {H : Hp} : ∀ {vs : List V} {ks : List Kd}, KrA K mo H vs ks → ks.all Kd.arg = true → KrA K none H vs ks
  | _, _, .nil, _ => .nil
  | _, k :: ks, .cons h t, e => by
    rw [List.all_cons, Bool.and_eq_true] at e
    exact .cons ⟨h.1.down e.1, .inl e.1⟩ (KrA.down t e.2)
/-- the call of a def that changes nothing -/
theorem ev_callP (h : AvP K T mo tg Γ (fun ks => ∃ k, R ks k ∧ k.ret = true ∧ ks.all Kd.arg = true ∧ P k)) : EvP K T mo (tCall (Prm K T none (DSpec R)) [] E0 tg) Γ P := fun H0 σ H Q E q =>
  h H0 σ H _ E fun vs H1 ks p e1 r1 => by
    obtain ⟨k, hR, hret, harg, hP⟩ := p
    have E1 := E.on e1
    rw [List.append_nil]
    refine ⟨E1.tb, (fun b z => nomatch z), ks, _, r1.down harg, ⟨k, hR, hret, harg, rfl⟩, fun v H2 k' z e2 r2 => ?_⟩
    have e2' : LeM T mo H1 H2 := e2.up
    subst z
    exact q v H2 _ hP (e1.trans e2') ((r2.up hret).back e1)
theorem ev_call (h : Av K T mo tg Γ ks) (hR : R ks k) (hret : k.ret = true := by rfl) (harg : ks.all Kd.arg = true := by rfl) : Ev K T mo (tCall (Prm K T none (DSpec R)) [] E0 tg) Γ k :=
  ev_callP fun H0 σ H Q E q => h H0 σ H Q E fun vs H' ks' e => q vs H' ks' ⟨k, by rw [e]; exact hR, hret, by rw [e]; exact harg, rfl⟩
/-- the call of a def that draws, with the same well -/
theorem ev_callW {a : Addr} (h : AvP K T (some a) tg Γ (fun ks => ∃ P', spec ks P' ∧ ∀ k, P' k → P k)) : EvP K T (some a) (tCall (PrW K T spec) [] E0 tg) Γ P := fun H0 σ H Q E q =>
  h H0 σ H _ E fun vs H1 ks p e1 r1 => by
    obtain ⟨P', hs, hP⟩ := p
    have E1 := E.on e1
    rw [List.append_nil]
    exact ⟨a, E1.tb, E1.wl, ks, P', r1, hs, fun v H2 k z e2 r2 => q v H2 k (hP k z) (e1.trans e2) (r2.back e1)⟩
end
end Hn
end

section
set_option Elab.async false
set_option linter.all false
set_option maxRecDepth 100000
set_option maxHeartbeats 4000000
namespace Hn
open PySem PySem.Spec PyProof.Rows L2 NdefX LamX

/-! ### built-in functions, by named readings -/
def rLenA (K : PySem.W.Frag) : List V → Hp → VK → Prop := fun xs H Q => ∃ p ys, xs = [.ref p] ∧ (SqL K H p ys ∨ SqT K H p ys) ∧ Q (.int ys.length) H
def rAbsA : List V → Hp → VK → Prop := fun xs H Q => ∃ i, xs = [.int i] ∧ Q (.int (if i < 0 then -i else i)) H
def rIntA : List V → Hp → VK → Prop := fun xs H Q => (∃ i, xs = [.int i] ∧ Q (.int i) H) ∨ ∃ k, xs = [.bl k] ∧ Q (.int (if k then 1 else 0)) H
def rMaxA : List V → Hp → VK → Prop := fun xs H Q => ∃ i j, xs = [.int i, .int j] ∧ Q (.int (if j > i then j else i)) H
def rMinA : List V → Hp → VK → Prop := fun xs H Q => ∃ i j, xs = [.int i, .int j] ∧ Q (.int (if j < i then j else i)) H
def rTupA (K : PySem.W.Frag) : List V → Hp → VK → Prop := fun xs H Q => ∃ p ys, xs = [.ref p] ∧ ((SqL K H p ys ∧ ∀ l, H l = none → Q (.ref l) (upd H l (.tup ys))) ∨ (SqT K H p ys ∧ Q (.ref p) H))
def rDivA : List V → Hp → VK → Prop := fun xs H Q => ∃ i j, xs = [.int i, .int j] ∧ CDivP i j ∧ ∀ p, H p = none → Q (.ref p) (upd H p (.tup [.int (i / j), .int (i % j)]))
section
variable {X : Cx}
theorem c_len : CallR X (.builtin "len") (rLenA X.K) := call_len_seq
theorem c_abs : CallR X (.builtin "abs") rAbsA := call_abs
theorem c_int : CallR X (.type "int") rIntA := call_int1
theorem c_max (hc : X.calm = true) : CallR X (.builtin "max") rMaxA := call_max2 hc
theorem c_min (hc : X.calm = true) : CallR X (.builtin "min") rMinA := call_min2 hc
theorem c_tup : CallR X (.type "tuple") (rTupA X.K) := call_tuple_of
theorem c_divmod : CallR X (.builtin "divmod") rDivA := call_divmodW
/-- a truth value less a truth value -/
def rSubB : R2 := fun x y H Q => ∃ a b : Bool, x = .bl a ∧ y = .bl b ∧ Q (.int ((if a then 1 else 0) - (if b then 1 else 0))) H
end

section
variable {K : PySem.W.Frag} {T : List NTab} {mo : Option Addr} {te ta tb tl th : TE} {tg : TA} {Γ : List Slot} {k : Kd} {d d1 d2 : D} {ds : List D} {i j : Int} {P : Kd → Prop}
/-- one argument, by its kind -/
theorem ev_c1 {r : List V → Hp → VK → Prop} {k1 : Kd} (h : Ev K T mo ta Γ k1) (hr : ∀ H H1 v (Q : VK), Wl mo H → LeM T mo H H1 → Kr K mo H H1 v k1 → (∀ v' H2, LeM T mo H1 H2 → Kr K mo H H2 v' k → Q v' H2) → r [v] H1 Q) : Ev K T mo (tCB r (tCons ta tNil)) Γ k := fun H0 σ H Q E q =>
  h H0 σ H _ E fun v H1 k' p e r1 => by
    subst p
    exact hr H H1 v Q E.wl e r1 fun v' H2 e2 r2 => q v' H2 k rfl (e.trans e2) r2
theorem ev_lenL (h : Ev K T mo ta Γ (.ls ds)) : Ev K T mo (tCB (rLenA K) (tCons ta tNil)) Γ (.im (.int ((ds.length : Nat) : Int))) := ev_c1 h fun H H1 v Q _ _ r q => by
  obtain ⟨a, xs, rfl, _, h2, h3⟩ := r
  exact ⟨a, xs, rfl, .inl h2, q _ H1 LeM.refl (by rw [h3.length]; exact .int _)⟩
theorem ev_lenT (h : Ev K T mo ta Γ (.im (.tup ds))) : Ev K T mo (tCB (rLenA K) (tCons ta tNil)) Γ (.im (.int ((ds.length : Nat) : Int))) := ev_c1 h fun H H1 v Q _ _ r q => by
  cases r with
  | @tup a xs _ h2 h3 => exact ⟨a, xs, rfl, .inr h2, q _ H1 LeM.refl (by rw [h3.length]; exact .int _)⟩
theorem ev_abs (h : Ev K T mo ta Γ (.im (.int i))) : Ev K T mo (tCB rAbsA (tCons ta tNil)) Γ (.im (.int (i.natAbs : Int))) := ev_c1 h fun H H1 v Q _ _ r q => by
  cases r
  refine ⟨i, rfl, ?_⟩
  have e : (if i < 0 then -i else i) = (i.natAbs : Int) := by
    split <;> omega
  rw [e]
  exact q _ H1 LeM.refl (.int _)
theorem ev_intI (h : EvP K T mo ta Γ P) (hp : ∀ k, P k → ∃ i, k = .im (.int i)) : EvP K T mo (tCB rIntA (tCons ta tNil)) Γ P := fun H0 σ H Q E q =>
  h H0 σ H _ E fun v H1 k p e r => by
    obtain ⟨i, rfl⟩ := hp k p
    cases r
    exact .inl ⟨i, rfl, q _ H1 _ p e (.int i)⟩
theorem ev_int1 (h : Ev K T mo ta Γ (.im (.int i))) : Ev K T mo (tCB rIntA (tCons ta tNil)) Γ (.im (.int i)) := ev_intI h fun k e => ⟨i, e⟩
theorem ev_gcd (h : Av K T mo tg Γ [.im (.int i), .im (.int j)]) : Ev K T mo (tCB rGcd tg) Γ (.im (.int ((Nat.gcd i.natAbs j.natAbs : Nat) : Int))) := fun H0 σ H Q E q =>
  h H0 σ H _ E fun vs H1 ks p e r => by
    subst p
    cases r with
    | cons a r =>
      cases r with
      | cons b r =>
        cases r
        cases a.1
        cases b.1
        exact ⟨i, j, rfl, q _ H1 _ rfl e (.int _)⟩
theorem ev_two {r : List V → Hp → VK → Prop} (h : Av K T mo tg Γ [.im (.int i), .im (.int j)]) (hr : ∀ H1 (Q : VK), (∀ v' H2, LeM T mo H1 H2 → Kr K mo H1 H2 v' k → Q v' H2) → r [.int i, .int j] H1 Q) : Ev K T mo (tCB r tg) Γ k := fun H0 σ H Q E q =>
  h H0 σ H _ E fun vs H1 ks p e r1 => by
    subst p
    cases r1 with
    | cons a r1 =>
      cases r1 with
      | cons b r1 =>
        cases r1
        cases a.1
        cases b.1
        exact hr H1 Q fun v' H2 e2 r2 => q v' H2 _ rfl (e.trans e2) (r2.back e)
theorem ev_max2 (h : Av K T mo tg Γ [.im (.int i), .im (.int j)]) : Ev K T mo (tCB rMaxA tg) Γ (.im (.int (max i j))) := ev_two h fun H1 Q q => ⟨i, j, rfl, by
  have e : (if j > i then j else i) = max i j := by
    rw [Int.max_def]
    split <;> split <;> omega
  rw [e]
  exact q _ H1 LeM.refl (.int _)⟩
theorem ev_min2 (h : Av K T mo tg Γ [.im (.int i), .im (.int j)]) : Ev K T mo (tCB rMinA tg) Γ (.im (.int (min i j))) := ev_two h fun H1 Q q => ⟨i, j, rfl, by
  have e : (if j < i then j else i) = min i j := by
    rw [Int.min_def]
    split <;> split <;> omega
  rw [e]
  exact q _ H1 LeM.refl (.int _)⟩
theorem ev_divmod (h : Av K T mo tg Γ [.im (.int i), .im (.int j)]) (hc : CDivP i j) : Ev K T mo (tCB rDivA tg) Γ (.im (.tup [.int (i / j), .int (i % j)])) := ev_two h fun H1 Q q => ⟨i, j, rfl, hc, fun p hp =>
  q _ _ (LeM.new hp) (.tup (.of upd_same) (.cons (.int _) (.cons (.int _) .nil)))⟩
/-- tuple(list) -/
theorem ev_tupL (h : Ev K T mo ta Γ (.ls ds)) : Ev K T mo (tCB (rTupA K) (tCons ta tNil)) Γ (.im (.tup ds)) := ev_c1 h fun H H1 v Q _ _ r q => by
  obtain ⟨a, xs, rfl, _, h2, h3⟩ := r
  exact ⟨a, xs, rfl, .inl ⟨h2, fun l hl => q _ _ (LeM.new hl) (.tup (.of upd_same) (h3.mono (LeM.new (T := T) (mo := mo) hl).tup))⟩⟩
theorem RpA.bls {H : Hp} : ∀ {vs : List V} {bs : List Bool}, RpA K H vs (bs.map D.bl) → vs = bs.map V.bl
  | _, [], .nil => rfl
  | _, b :: bs, .cons h t => by
    cases h
    rw [RpA.bls t] <;> rfl
theorem ev_all {bs : List Bool} (h : Ev K T mo ta Γ (.ls (bs.map D.bl))) : Ev K T mo (tCB (rAll K) (tCons ta tNil)) Γ (.im (.bl (bs.all id))) := ev_c1 h fun H H1 v Q _ _ r q => by
  obtain ⟨a, xs, rfl, _, h2, h3⟩ := r
  rw [h3.bls] at h2
  exact ⟨a, bs, rfl, h2, q _ H1 LeM.refl (.bl _)⟩
theorem ev_sum {ns : List Int} (h : Ev K T mo ta Γ (.ls (ns.map D.int))) : Ev K T mo (tCB (rSum K) (tCons ta tNil)) Γ (.im (.int ns.sum)) := ev_c1 h fun H H1 v Q _ _ r q => by
  obtain ⟨a, xs, rfl, _, h2, h3⟩ := r
  rw [h3.ints] at h2
  exact ⟨a, ns, rfl, h2, q _ H1 LeM.refl (.int _)⟩
theorem ev_ty {n : String} : Ev K T mo (tC (.ty n)) Γ (.im (.ty n)) := fun H0 σ H Q E q => q _ H _ rfl LeM.refl (.ty n)
def D.tyN : D → String
  | .non => "NoneType"
  | .bl _ => "bool"
  | .int _ => "int"
  | .str _ => "str"
  | .ty _ => "type"
  | .tup _ => "tuple"
  | .fn _ _ _ => "function"
def D.noTy : D → Bool
  | .ty _ => false
  | .fn _ _ _ => false
  | _ => true
theorem Rp.tyX {H : Hp} {v : V} (h : Rp K H v d) (hn : d.noTy = true) : TyX K H v (.type d.tyN) := by
  cases h with
  | non => exact .base .non
  | bl b => exact .base (.bl b)
  | int i => exact .base (.int i)
  | str s => exact .base (.str s)
  | ty n => cases hn
  | fn f h => cases hn
  | tup hs _ =>
    rcases hs with (hs | ⟨o, hs⟩) | ⟨o, its, n, hk, hc, _⟩
    · exact .base (.tup hs)
    · exact .fTuple hs
    · exact .kTuple hk hc
theorem ev_isi {n : String} {b : Bool} (h : Av K T mo tg Γ [.im d, .im (.ty n)]) (hb : kitB d.tyN n = some b) (hn : d.noTy = true := by rfl) : Ev K T mo (tCB (rIsi K) tg) Γ (.im (.bl b)) := fun H0 σ H Q E q =>
  h H0 σ H _ E fun vs H1 ks p e r => by
    subst p
    cases r with
    | cons a r =>
      cases r with
      | cons c r =>
        cases r
        cases c.1
        exact ⟨_, _, _, _, b, rfl, .ty n, Rp.tyX (show Rp K H1 _ d from a.1) hn, kit_ty hb, q _ H1 _ rfl e (.bl b)⟩

/-! ### slices of lists -/
theorem cutV_from (xs : List V) (k : Nat) : cutV xs (some (k : Int)) none = xs.drop k := by
  unfold cutV
  rw [HT.sIx_nat, HT.sIx_none]
  by_cases h : k ≤ xs.length
  · rw [Nat.min_eq_left h]
    exact List.take_of_length_le (by rw [List.length_drop]; omega)
  · rw [Nat.min_eq_right (by omega), List.drop_of_length_le (Nat.le_refl _), List.drop_of_length_le (by omega), List.take_nil]
theorem cutV_to (xs : List V) (k : Nat) : cutV xs none (some (k : Int)) = xs.take k := by
  unfold cutV
  rw [HT.sIx_nat, HT.sIx_none]
  show xs.take (min k xs.length - 0) = _
  rw [Nat.sub_zero]
  by_cases h : k ≤ xs.length
  · rw [Nat.min_eq_left h]
  · rw [Nat.min_eq_right (by omega), List.take_of_length_le (Nat.le_refl _), List.take_of_length_le (by omega)]
theorem ev_slFrom {n : Nat} (h : Ev K T mo ta Γ (.ls ds)) (hl : Ev K T mo tl Γ (.im (.int ((n : Nat) : Int)))) : Ev K T mo (tSl (rSlL K) ta (tPart tl) tNoPart) Γ (.fl (ds.drop n)) := fun H0 σ H Q E q =>
  h H0 σ H _ E fun x H1 k1 p1 e1 r1 => hl H0 σ H1 _ (E.on e1) fun y H2 k2 p2 e2 r2 => by
    subst p1 p2
    obtain ⟨a, xs, rfl, hm, h2, h3⟩ := r1.on E.wl e2
    cases r2
    refine ⟨(n : Int), rfl, a, xs, rfl, h2, fun p hp => ?_⟩
    have e3 := e1.trans e2
    refine q _ _ _ rfl (e3.trans (LeM.new hp)) ⟨p, xs.drop n, rfl, e3.fresh hp, ?_, (h3.drop n).mono (LeM.new (T := T) (mo := mo) hp).tup⟩
    rw [upd_same, cutV_from]
theorem ev_slTo {n : Nat} (h : Ev K T mo ta Γ (.ls ds)) (hl : Ev K T mo tl Γ (.im (.int ((n : Nat) : Int)))) : Ev K T mo (tSl (rSlL K) ta tNoPart (tPart tl)) Γ (.fl (ds.take n)) := fun H0 σ H Q E q =>
  h H0 σ H _ E fun x H1 k1 p1 e1 r1 => hl H0 σ H1 _ (E.on e1) fun y H2 k2 p2 e2 r2 => by
    subst p1 p2
    obtain ⟨a, xs, rfl, hm, h2, h3⟩ := r1.on E.wl e2
    cases r2
    refine ⟨(n : Int), rfl, a, xs, rfl, h2, fun p hp => ?_⟩
    have e3 := e1.trans e2
    refine q _ _ _ rfl (e3.trans (LeM.new hp)) ⟨p, xs.take n, rfl, e3.fresh hp, ?_, (h3.take n).mono (LeM.new (T := T) (mo := mo) hp).tup⟩
    rw [upd_same, cutV_to]
/-- [d] * n -/
theorem flat_rep {α : Type} (x : α) : ∀ n : Nat, (List.replicate n [x]).flatten = List.replicate n x
  | 0 => rfl
  | n + 1 => by rw [List.replicate_succ, List.flatten_cons, flat_rep x n]; rfl
theorem ev_rep {n : Nat} (h : Ev K T mo ta Γ (.fl [d])) (hl : Ev K T mo tl Γ (.im (.int ((n : Nat) : Int)))) (hn : n ≤ 10000) : Ev K T mo (tOp rRep ta tl) Γ (.fl (List.replicate n d)) := fun H0 σ H Q E q =>
  h H0 σ H _ E fun x H1 k1 p1 e1 r1 => hl H0 σ H1 _ (E.on e1) fun y H2 k2 p2 e2 r2 => by
    subst p1 p2
    obtain ⟨a, xs, rfl, h1, h2, h3⟩ := r1.on E.wl e2
    cases r2
    cases h3 with
    | @cons v vs _ _ hv hr =>
      cases hr
      refine ⟨a, (n : Int), [v], rfl, rfl, h2, by omega, by omega, by rw [sizeLine_eq, Int.toNat_natCast, List.length_singleton]; omega, fun p hp => ?_⟩
      have e3 := e1.trans e2
      refine q _ _ _ rfl (e3.trans (LeM.new hp)) ⟨p, List.replicate n v, rfl, e3.fresh hp, ?_, (RpA.rep hv n).mono (LeM.new (T := T) (mo := mo) hp).tup⟩
      rw [upd_same, Int.toNat_natCast, flat_rep]
end

/-! ### == of data -/
mutual
def D.py : D → PyData
  | .non => .none
  | .bl b => .bool b
  | .int i => .int i
  | .str s => .str s
  | .ty _ => .dict []
  | .fn _ _ _ => .dict []
  | .tup ds => .tuple (D.pys ds)
def D.pys : List D → List PyData
  | [] => []
  | d :: ds => d.py :: D.pys ds
end
mutual
/-- no class within -/
def D.ok : D → Bool
  | .ty _ => false
  | .fn _ _ _ => false
  | .tup ds => D.oks ds
  | _ => true
def D.oks : List D → Bool
  | [] => true
  | d :: ds => d.ok && D.oks ds
end
section
variable {K : PySem.W.Frag} {H : Hp}
mutual
theorem Rp.dp : ∀ {v : V} {d : D}, Rp K H v d → d.ok = true → Dp K H v d.py
  | _, _, .non, _ => .non
  | _, _, .bl b, _ => .bl b
  | _, _, .int i, _ => .int i
  | _, _, .str s, _ => .str s
  | _, _, .ty n, h => by cases h
  | _, _, .fn f _, h => by cases h
  | _, _, .tup hs ha, h => .tup hs (RpA.dp ha h)
theorem RpA.dp : ∀ {vs : List V} {ds : List D}, RpA K H vs ds → D.oks ds = true → DpAll K H vs (D.pys ds)
  | _, _, .nil, _ => .nil
  | _, _, .cons h t, e => .cons (Rp.dp h (Bool.and_eq_true_iff.mp e).1) (RpA.dp t (Bool.and_eq_true_iff.mp e).2)
end
theorem D.pys_map {α : Type} (f : α → D) : ∀ l : List α, D.pys (l.map f) = l.map fun x => (f x).py
  | [] => rfl
  | x :: l => congrArg ((f x).py :: ·) (D.pys_map f l)
theorem D.pys_eq : ∀ l : List D, D.pys l = l.map D.py
  | [] => rfl
  | x :: l => congrArg (x.py :: ·) (D.pys_eq l)
theorem D.oks_of : ∀ {l : List D}, (∀ d ∈ l, d.ok = true) → D.oks l = true
  | [], _ => rfl
  | x :: l, h => by
    show (x.ok && D.oks l) = true
    rw [h x List.mem_cons_self, D.oks_of fun d hd => h d (List.mem_cons_of_mem _ hd)]
    rfl
theorem lay_all {n : Nat} : ∀ {l : List PyData}, (∀ d ∈ l, d.canLay0 = true ∧ d.depth ≤ n) → PyData.canLayAll0 l = true ∧ PyData.depthAll l ≤ n
  | [], _ => by simp [PyData.canLayAll0, PyData.depthAll]
  | x :: l, h => by
    obtain ⟨a, b⟩ := lay_all (l := l) (n := n) fun d hd => h d (List.mem_cons_of_mem _ hd)
    obtain ⟨c, d⟩ := h x List.mem_cons_self
    simp only [PyData.canLayAll0, PyData.depthAll, a, c, Bool.and_self, true_and]
    omega
theorem shaped_of {d : PyData} (h : d.canLay0 = true) (h' : d.depth ≤ 64) : SeqAt.shaped d = true := by
  show (d.canLay0 && decide (d.depth ≤ 64)) = true
  rw [h, decide_eq_true h']
  rfl
theorem lay_int (i : Int) : (PyData.int i).canLay0 = true ∧ (PyData.int i).depth ≤ 1 := by simp [PyData.canLay0, PyData.depth]
theorem lay_tup {l : List PyData} {n : Nat} (h : ∀ d ∈ l, d.canLay0 = true ∧ d.depth ≤ n) : (PyData.tuple l).canLay0 = true ∧ (PyData.tuple l).depth ≤ n + 1 := by
  obtain ⟨a, b⟩ := lay_all h
  simp only [PyData.canLay0, PyData.depth, a, true_and]
  omega
theorem lay_list {l : List PyData} {n : Nat} (h : ∀ d ∈ l, d.canLay0 = true ∧ d.depth ≤ n) : (PyData.list l).canLay0 = true ∧ (PyData.list l).depth ≤ n + 1 := by
  obtain ⟨a, b⟩ := lay_all h
  simp only [PyData.canLay0, PyData.depth, a, true_and]
  omega
/-- data that may be compared -/
def D.cmp (d : D) : Prop := d.ok = true ∧ d.py.canLay0 = true ∧ d.py.depth ≤ 8
theorem cmp_int (i : Int) : (D.int i).cmp := ⟨rfl, by simp [D.py, PyData.canLay0], by simp [D.py, PyData.depth]⟩
theorem cmp_non : D.non.cmp := ⟨rfl, by simp [D.py, PyData.canLay0], by simp [D.py, PyData.depth]⟩
theorem cmp_ints (ns : List Int) : (D.tup (ns.map D.int)).cmp := by
  have h := lay_tup (l := D.pys (ns.map D.int)) (n := 1) fun d hd => by
    rw [D.pys_map] at hd
    obtain ⟨i, _, rfl⟩ := List.mem_map.mp hd
    exact lay_int i
  exact ⟨D.oks_of fun d hd => by
    obtain ⟨i, _, rfl⟩ := List.mem_map.mp hd
    rfl, h.1, Nat.le_trans h.2 (by decide)⟩
theorem cmp_fr (q : Rat) : (fr q).cmp := cmp_ints [q.num, (q.den : Int)]
theorem D.cmp.shaped {d : D} (h : d.cmp) : SeqAt.shaped d.py = true := shaped_of h.2.1 (Nat.le_trans h.2.2 (by decide))
theorem cmp_list {l : List D} (h : ∀ d ∈ l, d.cmp) : D.oks l = true ∧ SeqAt.shaped (.list (D.pys l)) = true := by
  refine ⟨D.oks_of fun d hd => (h d hd).1, ?_⟩
  have q := lay_list (l := D.pys l) (n := 8) fun d hd => by
    rw [D.pys_eq] at hd
    obtain ⟨e, he, rfl⟩ := List.mem_map.mp hd
    exact (h e he).2
  exact shaped_of q.1 (Nat.le_trans q.2 (by decide))
end
section
variable {K : PySem.W.Frag} {T : List NTab} {mo : Option Addr} {ta tb : TE} {Γ : List Slot} {d1 d2 : D} {ds es : List D} {X : Cx}
theorem ev_eqD (ha : Ev K T mo ta Γ (.im d1)) (hb : Ev K T mo tb Γ (.im d2)) (h1 : d1.cmp) (h2 : d2.cmp) : Ev K T mo (tOp (rEqD K) ta tb) Γ (.im (.bl (PyData.eqv d1.py d2.py))) :=
  ev_opP ha hb fun k1 k2 p1 p2 => ⟨d1, d2, p1, p2, fun H x y Q r1 r2 q => ⟨d1.py, d2.py, r1.dp h1.1, r2.dp h2.1, h1.shaped, h2.shaped, q _ _ rfl (.bl _) rfl⟩⟩
theorem ev_neD (ha : Ev K T mo ta Γ (.im d1)) (hb : Ev K T mo tb Γ (.im d2)) (h1 : d1.cmp) (h2 : d2.cmp) : Ev K T mo (tOp (rNeD K) ta tb) Γ (.im (.bl (!PyData.eqv d1.py d2.py))) :=
  ev_opP ha hb fun k1 k2 p1 p2 => ⟨d1, d2, p1, p2, fun H x y Q r1 r2 q => ⟨d1.py, d2.py, r1.dp h1.1, r2.dp h2.1, h1.shaped, h2.shaped, q _ _ rfl (.bl _) rfl⟩⟩
theorem Kr.dpL {H H' : Hp} {v : V} (r : Kr K mo H H' v (.ls ds)) (h : ∀ d ∈ ds, d.cmp) : Dp K H' v (.list (D.pys ds)) := by
  obtain ⟨a, xs, rfl, _, h2, h3⟩ := r
  exact .lst h2 (h3.dp (cmp_list h).1)
theorem ev_eqL (ha : Ev K T mo ta Γ (.ls ds)) (hb : Ev K T mo tb Γ (.ls es)) (h1 : ∀ d ∈ ds, d.cmp) (h2 : ∀ d ∈ es, d.cmp) : Ev K T mo (tOp (rEqD K) ta tb) Γ (.im (.bl (PyData.eqv (.list (D.pys ds)) (.list (D.pys es))))) := fun H0 σ H Q E q =>
  ha H0 σ H _ E fun x H1 k1 p1 e1 r1 => hb H0 σ H1 _ (E.on e1) fun y H2 k2 p2 e2 r2 => by
    subst p1 p2
    exact ⟨_, _, (r1.on E.wl e2).dpL h1, r2.dpL h2, (cmp_list h1).2, (cmp_list h2).2, q _ H2 _ rfl (e1.trans e2) (.bl _)⟩
theorem ev_neL (ha : Ev K T mo ta Γ (.ls ds)) (hb : Ev K T mo tb Γ (.ls es)) (h1 : ∀ d ∈ ds, d.cmp) (h2 : ∀ d ∈ es, d.cmp) : Ev K T mo (tOp (rNeD K) ta tb) Γ (.im (.bl (!PyData.eqv (.list (D.pys ds)) (.list (D.pys es))))) := fun H0 σ H Q E q =>
  ha H0 σ H _ E fun x H1 k1 p1 e1 r1 => hb H0 σ H1 _ (E.on e1) fun y H2 k2 p2 e2 r2 => by
    subst p1 p2
    exact ⟨_, _, (r1.on E.wl e2).dpL h1, r2.dpL h2, (cmp_list h1).2, (cmp_list h2).2, q _ H2 _ rfl (e1.trans e2) (.bl _)⟩
theorem eqv_fr (p q : Rat) : PyData.eqv (fr p).py (fr q).py = decide (p = q) := by
  have e : PyData.eqv (fr p).py (fr q).py = ((p.num == q.num) && (((p.den : Int) == (q.den : Int)) && true)) := by simp only [D.py, D.pys, PyData.eqv, PyData.eqvAll]
  rw [e]
  by_cases h : p = q
  · subst h
    simp
  · rw [decide_eq_false h]
    by_cases h1 : p.num = q.num
    · have h2 : ¬ p.den = q.den := fun z => h (Rat.ext h1 z)
      have h3 : ((p.den : Int) == (q.den : Int)) = false := beq_eq_false_iff_ne.mpr (by omega)
      rw [h3, Bool.false_and, Bool.and_false]
    · rw [beq_eq_false_iff_ne.mpr h1, Bool.false_and]
theorem eqv_intsA : ∀ ns ms : List Int, PyData.eqvAll (D.pys (ns.map D.int)) (D.pys (ms.map D.int)) = decide (ns = ms)
  | [], [] => by simp [D.pys, PyData.eqvAll]
  | [], m :: ms => by simp [D.pys, PyData.eqvAll]
  | n :: ns, [] => by simp [D.pys, PyData.eqvAll]
  | n :: ns, m :: ms => by
    have ih := eqv_intsA ns ms
    simp only [List.map_cons, D.pys, D.py, PyData.eqvAll, PyData.eqv, ih]
    by_cases h : n = m
    · subst h
      simp
    · rw [beq_eq_false_iff_ne.mpr h, Bool.false_and]
      exact (decide_eq_false (fun z => h (List.cons.inj z).1)).symm
theorem eqv_ints (ns ms : List Int) : PyData.eqv (D.tup (ns.map D.int)).py (D.tup (ms.map D.int)).py = decide (ns = ms) := by
  simp only [D.py, PyData.eqv]
  exact eqv_intsA ns ms
theorem eqv_nil (ds : List D) : PyData.eqv (.list (D.pys ds)) (.list (D.pys [])) = ds.isEmpty := by
  cases ds with
  | nil => simp [D.pys, PyData.eqv, PyData.eqvAll]
  | cons d ds => simp [D.pys, PyData.eqv, PyData.eqvAll]
theorem ev_eqF {p q : Rat} (ha : Ev K T mo ta Γ (.im (fr p))) (hb : Ev K T mo tb Γ (.im (fr q))) : Ev K T mo (tOp (rEqD K) ta tb) Γ (.im (.bl (decide (p = q)))) := (ev_eqD ha hb (cmp_fr p) (cmp_fr q)).as (by rw [eqv_fr])
theorem ev_neF {p q : Rat} (ha : Ev K T mo ta Γ (.im (fr p))) (hb : Ev K T mo tb Γ (.im (fr q))) : Ev K T mo (tOp (rNeD K) ta tb) Γ (.im (.bl (!decide (p = q)))) := (ev_neD ha hb (cmp_fr p) (cmp_fr q)).as (by rw [eqv_fr])
theorem ev_neNil (ha : Ev K T mo ta Γ (.ls ds)) (hb : Ev K T mo tb Γ (.ls [])) (h1 : ∀ d ∈ ds, d.cmp) : Ev K T mo (tOp (rNeD K) ta tb) Γ (.im (.bl (!ds.isEmpty))) := (ev_neL ha hb h1 (fun _ h => by cases h)).as (by rw [eqv_nil])
theorem ev_eqNil (ha : Ev K T mo ta Γ (.ls ds)) (hb : Ev K T mo tb Γ (.ls [])) (h1 : ∀ d ∈ ds, d.cmp) : Ev K T mo (tOp (rEqD K) ta tb) Γ (.im (.bl ds.isEmpty)) := (ev_eqL ha hb h1 (fun _ h => by cases h)).as (by rw [eqv_nil])
end
end Hn
end

section
set_option Elab.async false
set_option linter.all false
set_option maxRecDepth 100000
set_option maxHeartbeats 4000000
/-! walks over enumerate(tuple) and zip(tuple, list) -/
namespace Hn
open PySem PySem.Spec PyProof.Rows L2 NdefX LamX

theorem meets_enumT (t : Addr) (items : Array Value) :
    Meets (Builtin.«enumerate.__new__» ⟨[.type "enumerate", .ref t], []⟩) (fun _ R s => s.heap.IsTuple t items ∧
      R (.ok (.ret (.ref (s.heap.push { cls := .type "tuple_iterator", data := .fields #[.ref t, .int 0 0] }).objs.size)))
        { s with heap := (s.heap.push { cls := .type "tuple_iterator", data := .fields #[.ref t, .int 0 0] }).push { cls := .type "enumerate", data := .fields #[.none, .bool false, .ref s.heap.objs.size, rawInt 0, .none, .none] } }) :=
  .of_wp fun prog w A R s h => by
    obtain ⟨hp, g, d, tk, os⟩ := s
    obtain ⟨ht, h⟩ := h
    have hsub := sub_enumerate
    have go : ∀ {A' : Around} {E : Value → Shared → Prop} {Q : Value → Shared → Prop}, Q (.ref hp.objs.size) ⟨hp.push { cls := .type "tuple_iterator", data := .fields #[.ref t, .int 0 0] }, g, d, tk, os⟩ → wpAny (model prog w) A' (pyIter (.ref t)) Q E ⟨hp, g, d, tk, os⟩ :=
      fun q => (begins_tuple t items).iter prog w _ _ ⟨hp, g, d, tk, os⟩ _ ht q
    wp_walk using go
    refine wpAny_stack_any fun st => wpAny_pure ?_
    split
    · rename_i c _ _ _ _ _
      cases (c == Value.type "enumerate")
      · wp_walk using go
        exact ⟨_, rfl, h⟩
      · wp_walk using go
        exact ⟨_, rfl, h⟩
    · wp_walk using go
      exact ⟨_, rfl, h⟩
section
variable {prog : Program} {w : World} {A : Around} {E : Value → Shared → Prop} {s : Shared}
theorem call_enumT {t : Addr} {items : Array Value} {Q : Value → Shared → Prop} (ht : s.heap.IsTuple t items)
    (h : ∀ h', IsEnum h' (s.heap.objs.size + 1) s.heap.objs.size 0 .none → h'.IsTupleIter s.heap.objs.size t 0 → (∀ b o, s.heap.get? b = some o → h'.get? b = some o) → Q (.ref (s.heap.objs.size + 1)) { s with heap := h' }) :
    wpAny (model prog w) A (call (.type "enumerate") [.ref t]) Q E s := by
  refine callType_new F.called_enumerate (by decide) (F.typeCall_enumerate_1 _) (F.newCall_enumerate_1 _) (fun obj => F.args_object_init_2 obj _) F.entry_enumerate_new (meets_enumT t items) ⟨ht, ?_⟩
  generalize hit : ({ cls := .type "tuple_iterator", data := .fields #[.ref t, .int 0 0] } : Obj) = ti
  have z1 : (s.heap.push ti).objs.size = s.heap.objs.size + 1 := Heap.size_push ..
  have fr : ti.isFreed = false := by rw [← hit]; rfl
  show _ ∧ _
  rw [z1]
  have at1 := Heap.get?_push_size (s.heap.push ti) (o := { cls := .type "enumerate", data := .fields #[.none, .bool false, .ref s.heap.objs.size, rawInt 0, .none, .none] }) rfl
  rw [z1] at at1
  refine ⟨⟨_, at1, rfl⟩, h _ at1 ?_ (fun b o x => Heap.get?_push_of_some _ (Heap.get?_push_of_some _ x))⟩
  exact ⟨ti, Heap.get?_push_of_some _ (Heap.get?_push_size _ fr), by rw [← hit], by rw [← hit]; rfl⟩
end

/-- the tuple at a, each item in a new pair with its place -/
def Itet (K : PySem.W.Frag) (a : Addr) : It :=
  ⟨fun i H => ∃ (xs : List V) (x : V), SqT K H a xs ∧ xs[i]? = some x, fun i H v H' => ∃ t x, v = .ref t ∧ H t = none ∧ H' = upd H t (.tup [.int (i : Nat), x]) ∧ ∀ xs, SqT K H a xs → xs[i]? = some x, fun i H => ∃ xs : List V, SqT K H a xs ∧ xs.length = i⟩
theorem turn_et {P : Program} {w : World} {K : PySem.W.Frag} {elts : List Expr} {kk : Nat} {tpos : Pos} (a e it : Addr) :
    Turn P w K (.Tuple elts kk tpos) (Itet K a) [e, it] e (fun i h => (∃ old, IsEnum h e it ((i : Nat) : Int) old) ∧ h.IsTupleIter it a i ∧ e ≠ it) where
  mem := List.mem_cons_self
  obj := by
    intro i h ⟨⟨old, he⟩, ⟨o, ho, _, hd⟩, _⟩ b hb
    rcases List.mem_cons.mp hb with rfl | hb
    · exact ⟨_, he, fun v q => nomatch q⟩
    · rw [List.mem_singleton.mp hb]
      exact ⟨o, ho, fun v q => by rw [hd] at q; cases q⟩
  keep := by
    intro i h h' ⟨⟨old, he⟩, hi, ne⟩ k
    exact ⟨⟨old, k e (by simp) _ he⟩, hi.at fun o q => k it (by simp) o q, ne⟩
  item := by
    intro X hP hw hK hc i pins s σ H E I hf st hg
    subst hP hw hK
    obtain ⟨⟨old, he⟩, hit, ne⟩ := st
    obtain ⟨xs, x, hq, hx⟩ := hg
    obtain ⟨its, rv, p, _⟩ := I.tuple hq
    obtain ⟨u, hu, ru⟩ := rv.get hx
    have hu' : its.toArray[i]? = some u := by simpa using hu
    have le : e < s.heap.objs.size := Heap.lt_size he
    have li : it < s.heap.objs.size := by obtain ⟨_, q, _⟩ := hit; exact Heap.lt_size q
    have ai : a ≠ it := by
      intro z
      subst z
      obtain ⟨o1, q1, q2, _⟩ := p
      obtain ⟨o2, y1, y2, _⟩ := hit
      rw [q1] at y1
      cases y1
      rw [q2] at y2
      exact absurd (Value.type.inj y2) (by decide)
    have ae : e ∉ [it, a] := by
      intro z
      rcases List.mem_cons.mp z with z | z
      · exact ne z
      · have z := List.mem_singleton.mp z
        subst z
        obtain ⟨o1, q1, q2, _⟩ := p
        have he' : s.heap.get? e = some _ := he
        rw [q1] at he'
        cases he'
        exact absurd (Value.type.inj q2) (by decide)
    have lt : i < its.toArray.size := (Array.getElem?_eq_some_iff.mp hu').1
    refine wpAny_pyNext_enum_itemD (Draws.tuple (A := X.A.in1) (I.ok.hd hc) it a ai its.toArray) he ⟨hit, p⟩ lt ne ae fun y h' tk hy ho hst hT _ hk => ?_
    have ey : y = u := by
      have hy : its.toArray[i]? = some y := hy
      rw [hu'] at hy
      exact (Option.some.inj hy).symm
    subst ey
    refine ⟨_, rfl, wpAny_letOwnedTupleGo_enum (s := { s with heap := h', toks := tk + 1 }) ho fun h'' he' sb => ?_⟩
    have hT2 : h''.get? s.heap.objs.size = some { cls := .type "tuple", data := .seq #[.int i tk, y] } := (sb.2 _ (Nat.ne_of_gt le)).trans hT
    have mk : ObjOk X.prog X.w (upd H s.heap.objs.size (.tup [.int (i : Nat), x])) h'' s.heap.objs.size (.tup [.int (i : Nat), x]) :=
      ⟨by rw [sizeLine_eq]; simp, [.int i tk, y], .cons ⟨_, rfl⟩ (.cons ru .nil), ⟨_, hT2, rfl, _, rfl⟩⟩
    have J : Inv X pins σ (upd H s.heap.objs.size (.tup [.int (i : Nat), x])) { s with heap := h'', toks := tk + 1 } :=
      I.turnedNew (ch := [e, it]) (fun b ob hb q => by
        have n1 : b ≠ e := fun z => hb (by simp [z])
        have n2 : b ≠ it := fun z => hb (by simp [z])
        exact (sb.2 b n1).trans (hk b ob n1 n2 q)) hf (Nat.le_refl _) mk
    refine ⟨.ref s.heap.objs.size, _, J, rfl, ⟨_, x, rfl, I.hok.fresh (Nat.le_refl _), rfl, fun ys hy => by rw [I.tuple_inj hy hq]; exact hx⟩, ⟨⟨y, ?_⟩, hst.1.at fun o q => (sb.2 it (Ne.symm ne)).trans q, ne⟩, fun b hb => ?_⟩
    · rw [Int.natCast_succ]
      exact he'
    · have lb : b < s.heap.objs.size := by
        rcases List.mem_cons.mp hb with rfl | hb
        · exact le
        · rw [List.mem_singleton.mp hb]
          exact li
      rw [upd_ne (Nat.ne_of_lt lb)]
      exact (hf b hb).1
  done := by
    intro X hP hw hK hc i pins s σ H E I hf st hg
    subst hP hw hK
    obtain ⟨⟨old, he⟩, hit, ne⟩ := st
    obtain ⟨xs, hq, hx⟩ := hg
    obtain ⟨its, rv, p, _⟩ := I.tuple hq
    have ai : a ≠ it := by
      intro z
      subst z
      obtain ⟨o1, q1, q2, _⟩ := p
      obtain ⟨o2, y1, y2, _⟩ := hit
      rw [q1] at y1
      cases y1
      rw [q2] at y2
      exact absurd (Value.type.inj y2) (by decide)
    have en : its.toArray.size = i := by
      rw [List.size_toArray, ← rv.length]
      exact hx
    have st2 : s.heap.IsTupleIter it a its.toArray.size ∧ s.heap.IsTuple a its.toArray := ⟨by rw [en]; exact hit, p⟩
    obtain ⟨f0, f1, f2, f3, f4, f5⟩ := hf it (by simp)
    exact wpAny_pyNext_enum_endD (Draws.tuple (A := X.A.in1) (I.ok.hd hc) it a ai its.toArray) he st2 fun h' eb => ⟨rfl, I.turned (t' := s.toks) (fun b o hb q => eb b o hb q) f0 f1 f3 f4 f5⟩
  self := fun A i s Q E st h => let ⟨⟨_, he⟩, _⟩ := st; wpAny_pyIter_enum he h
def iEnt (K : PySem.W.Frag) (ta : TA) : TI := fun σ H R => ta σ H fun vs H1 => ∃ a xs, vs = [.ref a] ∧ SqT K H1 a xs ∧ R (Itet K a) H1
theorem pi_ent {X : Cx} {e : Expr} {ta : TA} {p pos tpos : Pos} {elts : List Expr} {kk : Nat} (hg : Gl X "enumerate") (hm : X.mg "enumerate" = none) (ha : PA X [e] ta) (hs : starEach [e] X.env = [(false, eval e X.env)] := by rfl) :
    PI X (.Tuple elts kk tpos) (.Call (.Name "enumerate" p) [e] [] pos) (iEnt X.K ta) where
  run := by
    intro pins s σ H R I h
    refine Call_ (ld_blt I hg hm boot_enumerate (PyProof.Rows.callWith_type1 (thn (ha.run pos pins s σ H _ I h) fun us s1 z => ?_) hs rfl))
    obtain ⟨vs, H1, I1, r1, a, xs, rfl, hq, q⟩ := z
    match us, r1 with
    | [_], .cons rfl .nil =>
      obtain ⟨its, rv, pt, _⟩ := I1.tuple hq
      refine call_enumT pt fun h' he hit hk => wpAny_pyIter_enum he ?_
      refine ⟨s1.heap.objs.size + 1, [s1.heap.objs.size + 1, s1.heap.objs.size], _, _, H1, rfl, I1.kept (t' := s1.toks) hk, turn_et a (s1.heap.objs.size + 1) s1.heap.objs.size, ⟨⟨.none, he⟩, hit, Nat.succ_ne_self _⟩, fun b hb => ?_, q⟩
      have le : s1.heap.objs.size ≤ b := by
        rcases List.mem_cons.mp hb with z | z
        · rw [z]
          exact Nat.le_succ _
        · rw [List.mem_singleton.mp z]
          exact Nat.le_refl _
      exact I1.fpOk le (I1.hok.fresh le)
section
variable {K : PySem.W.Frag} {T : List NTab} {mo : Option Addr} {te : TE} {tg : TA} {Γ : List Slot} {d : D} {ds : List D}
/-- for i, x in enumerate(tuple) -/
theorem it_ent {j1 j2 : Nat} (h : Av K T mo tg Γ [.im (.tup ds)]) {dd : Nat → D} (hd : ∀ i, i < ds.length → ds[i]? = some (dd i)) :
    IterP K T mo true (iEnt K tg) (gTup K 2 (gCons (gName j1) (gCons (gName j2) gNil))) [j1, j2] Γ ds.length (fun i Γ' => (Γ'.set j1 (.im (.int ((i : Nat) : Int)))).set j2 (.im (dd i))) := fun H0 σ H R E q =>
  h H0 σ H _ E fun vs H1 ks hk e1 r1 => by
    subst hk
    cases r1 with
    | cons r rs =>
      cases rs
      obtain ⟨r, _⟩ := r
      cases r with
      | @tup a xs _ hs ha =>
        refine ⟨a, xs, rfl, hs, ?_⟩
        have el := ha.length
        refine q (Itet K a) H1 (fun H2 => TupLe H1 H2) e1 (fun _ t => t) (fun i H' hi t => ⟨xs, xs[i]'(by omega), t.sq hs, by rw [List.getElem?_eq_getElem]⟩) (fun H' t => ⟨xs, t.sq hs, by omega⟩) fun i H' x H'' hi t y => ?_
        obtain ⟨t', u, rfl, hn, rfl, hx⟩ := y
        have e2 := hx xs (t.sq hs)
        obtain ⟨v, h1, h2⟩ := ha.get (hd i hi)
        rw [h1] at e2
        cases e2
        have n2 := LeM.new (T := T) (mo := mo) (o := .tup [.int (i : Nat), u]) hn
        exact ⟨n2, fun H0' σ' Γ' Q E' q' => gp_ok E' upd_same (.int _) ((h2.mono t).mono n2.tup) q'⟩
end
end Hn
end

section
set_option Elab.async false
set_option linter.all false
set_option maxRecDepth 100000
set_option maxHeartbeats 4000000
/-! walks over zip(tuple, tuple) and zip(tuple, list) -/
namespace Hn
open PySem PySem.Spec PyProof.Rows L2 NdefX LamX
section
variable {K : PySem.W.Frag} {T : List NTab} {mo : Option Addr} {te : TE} {tg : TA} {Γ : List Slot} {d : D} {ds es : List D}
/-- for x, y in zip(tuple, tuple) -/
theorem it_zipT {j1 j2 n : Nat} (h : Av K T mo tg Γ [.im (.tup ds), .im (.tup es)]) {d1 d2 : Nat → D} (hn : n = min ds.length es.length) (hd : ∀ i, i < n → ds[i]? = some (d1 i)) (he : ∀ i, i < n → es[i]? = some (d2 i)) :
    IterP K T mo true (RZ.iZipA K tg) (gTup K 2 (gCons (gName j1) (gCons (gName j2) gNil))) [j1, j2] Γ n (fun i Γ' => (Γ'.set j1 (.im (d1 i))).set j2 (.im (d2 i))) := fun H0 σ H R E q =>
  h H0 σ H _ E fun vs H1 ks hk e1 r1 => by
    subst hk
    cases r1 with
    | cons r rs =>
      cases rs with
      | cons r' rs =>
        cases rs
        obtain ⟨r, _⟩ := r
        obtain ⟨r', _⟩ := r'
        cases r with
        | @tup a xs _ hs ha =>
          cases r' with
          | @tup b ys _ hs' ha' =>
            refine ⟨a, b, xs, ys, rfl, .inr ⟨hs, hs', ?_⟩⟩
            have el := ha.length
            have el' := ha'.length
            refine q (RZ.ItzT K a b) H1 (fun H2 => TupLe H1 H2) e1 (fun _ t => t) (fun i H' hi t => ⟨xs, ys, xs[i]'(by omega), ys[i]'(by omega), t.sq hs, t.sq hs', by rw [List.getElem?_eq_getElem], by rw [List.getElem?_eq_getElem]⟩)
              (fun H' t => ⟨xs, ys, t.sq hs, t.sq hs', by omega⟩) fun i H' x H'' hi t y => ?_
            obtain ⟨t', u, u', rfl, hn', rfl, hx, hy⟩ := y
            have e2 := hx xs (t.sq hs)
            have e3 := hy ys (t.sq hs')
            obtain ⟨v, h1, h2⟩ := ha.get (hd i hi)
            obtain ⟨v', h1', h2'⟩ := ha'.get (he i hi)
            rw [h1] at e2
            rw [h1'] at e3
            cases e2
            cases e3
            have n2 := LeM.new (T := T) (mo := mo) (o := .tup [u, u']) hn'
            exact ⟨n2, fun H0' σ' Γ' Q E' q' => gp_ok E' upd_same ((h2.mono t).mono n2.tup) ((h2'.mono t).mono n2.tup) q'⟩
end

/-- the tuple at a and the list at b, the items in new pairs -/
def Itzm (K : PySem.W.Frag) (a b : Addr) : It :=
  ⟨fun i H => ∃ (xs ys : List V) (x y : V), SqT K H a xs ∧ SqL K H b ys ∧ xs[i]? = some x ∧ ys[i]? = some y,
    fun i H v H' => ∃ t x y, v = .ref t ∧ H t = none ∧ H' = upd H t (.tup [x, y]) ∧ (∀ xs, SqT K H a xs → xs[i]? = some x) ∧ ∀ ys, SqL K H b ys → ys[i]? = some y,
    fun i H => ∃ xs ys : List V, SqT K H a xs ∧ SqL K H b ys ∧ xs.length = i ∧ ys.length = i⟩
theorem tup_ne {h : Heap} {a it : Addr} {i : Nat} {its : Array Value} (p : h.IsTuple a its) (hit : h.IsTupleIter it a i) : a ≠ it := by
  intro z
  subst z
  obtain ⟨o1, q1, q2, _⟩ := p
  obtain ⟨o2, y1, y2, _⟩ := hit
  rw [q1] at y1
  cases y1
  rw [q2] at y2
  exact absurd (Value.type.inj y2) (by decide)
theorem lst_ne {h : Heap} {a it : Addr} {i : Nat} {its : Array Value} (p : h.IsList a its) (hit : h.IsListIter it a i) : a ≠ it := by
  intro z
  subst z
  obtain ⟨o1, q1, q2, _⟩ := p
  obtain ⟨o2, y1, y2, _⟩ := hit
  rw [q1] at y1
  cases y1
  rw [q2] at y2
  exact absurd (Value.type.inj y2) (by decide)
theorem turn_zm {P : Program} {w : World} {K : PySem.W.Frag} {elts : List Expr} {kk : Nat} {tpos : Pos} {a b z t1 t0 i1 i2 : Addr} (S : ZipSep2 z t1 t0 i1 i2 [i1, a] [i2, b]) :
    Turn P w K (.Tuple elts kk tpos) (Itzm K a b) [z, t1, t0, i1, i2] z (fun i h => IsZip h z t1 t0 .none ∧ IsTupOf2 h t1 (.ref i1) (.ref i2) ∧ (∃ x y, IsTupOf2 h t0 x y) ∧ h.IsTupleIter i1 a i ∧ h.IsListIter i2 b i) where
  mem := List.mem_cons_self
  obj := by
    intro i h ⟨hz, h1, ⟨x, y, h0⟩, ⟨o1, e1, _, d1⟩, ⟨o2, e2, _, d2⟩⟩ c hc
    have hc' : c = z ∨ c = t1 ∨ c = t0 ∨ c = i1 ∨ c = i2 := by simpa using hc
    rcases hc' with rfl | rfl | rfl | rfl | rfl
    · exact ⟨_, hz, fun v q => nomatch q⟩
    · exact ⟨_, h1, fun v q => nomatch q⟩
    · exact ⟨_, h0, fun v q => nomatch q⟩
    · exact ⟨o1, e1, fun v q => by rw [d1] at q; cases q⟩
    · exact ⟨o2, e2, fun v q => by rw [d2] at q; cases q⟩
  keep := by
    intro i h h' ⟨hz, h1, ⟨x, y, h0⟩, g1, g2⟩ k
    exact ⟨k z (by simp) _ hz, k t1 (by simp) _ h1, ⟨x, y, k t0 (by simp) _ h0⟩, g1.at fun o q => k i1 (by simp) o q, g2.at fun o q => k i2 (by simp) o q⟩
  item := by
    intro X hP hw hK hc i pins s σ H E I hf st hg
    subst hP hw hK
    obtain ⟨hz, h1, ⟨x0, y0, h0⟩, g1, g2⟩ := st
    obtain ⟨xs, ys, x, y, hqx, hqy, hx, hy⟩ := hg
    obtain ⟨its, rv, p, _⟩ := I.tuple hqx
    obtain ⟨its2, rv2, p2, _⟩ := I.list hqy
    obtain ⟨u, hu, ru⟩ := rv.get hx
    obtain ⟨u2, hu2, ru2⟩ := rv2.get hy
    have hu' : its.toArray[i]? = some u := by simpa using hu
    have hu2' : its2.toArray[i]? = some u2 := by simpa using hu2
    have lz : z < s.heap.objs.size := Heap.lt_size hz
    have D1 := Draws.tuple (prog := X.prog) (w := X.w) (A := X.A.in1) (I.ok.hd hc) i1 a (tup_ne p g1) its.toArray
    have D2 := Draws.list (prog := X.prog) (w := X.w) (A := X.A.in1) (I.ok.hd hc) i2 b (lst_ne p2.isList g2) its2.toArray
    refine wpAny_pyNext_zipD2_item S D1 D2 hz h1 h0 ⟨g1, p⟩ ⟨g2, p2.isList⟩ (Array.getElem?_eq_some_iff.mp hu').1 (Array.getElem?_eq_some_iff.mp hu2').1 fun w1 w2 h' tk y1 y2 z' t0' s1' s2' hT _ hk => ?_
    have ey : w1 = u := by
      have y1 : its.toArray[i]? = some w1 := y1
      rw [hu'] at y1
      exact (Option.some.inj y1).symm
    have ey2 : w2 = u2 := by
      have y2 : its2.toArray[i]? = some w2 := y2
      rw [hu2'] at y2
      exact (Option.some.inj y2).symm
    subst ey ey2
    refine ⟨_, rfl, wpAny_letOwnedTupleGo_zip (s := { s with heap := h', toks := tk }) z' fun h'' z'' sb => ?_⟩
    have hT2 : h''.get? s.heap.objs.size = some { cls := .type "tuple", data := .seq #[w1, w2] } := (sb.2 _ (Nat.ne_of_gt lz)).trans hT
    have mk : ObjOk X.prog X.w (upd H s.heap.objs.size (.tup [x, y])) h'' s.heap.objs.size (.tup [x, y]) := ⟨by rw [sizeLine_eq]; simp, [w1, w2], .cons ru (.cons ru2 .nil), ⟨_, hT2, rfl, _, rfl⟩⟩
    have J : Inv X pins σ (upd H s.heap.objs.size (.tup [x, y])) { s with heap := h'', toks := tk } :=
      I.turnedNew (ch := [z, t1, t0, i1, i2]) (fun c o hb q => by
        have n0 : c ≠ z := fun e => hb (by simp [e])
        have n1 : c ≠ t0 := fun e => hb (by simp [e])
        have n2 : c ≠ i1 := fun e => hb (by simp [e])
        have n3 : c ≠ i2 := fun e => hb (by simp [e])
        exact (sb.2 c n0).trans (hk c o n0 n1 n2 n3 q)) hf (Nat.le_refl _) mk
    have at_ : ∀ c, c ≠ z → ∀ o, h'.get? c = some o → h''.get? c = some o := fun c n o q => (sb.2 c n).trans q
    refine ⟨.ref s.heap.objs.size, _, J, rfl, ⟨_, x, y, rfl, I.hok.fresh (Nat.le_refl _), rfl, fun l hl => by rw [I.tuple_inj hl hqx]; exact hx, fun l hl => by rw [I.list_inj hl hqy]; exact hy⟩,
      ⟨z'', at_ _ S.TIz _ (hk _ _ S.TIz S.TITO S.TIi1 S.TIi2 h1), ⟨w1, w2, at_ _ S.TOz _ t0'⟩, s1'.1.at fun o q => at_ _ (Ne.symm S.zi1) o q, s2'.1.at fun o q => at_ _ (Ne.symm S.zi2) o q⟩, fun c hcm => ?_⟩
    have lc : c < s.heap.objs.size := by
      have hc' : c = z ∨ c = t1 ∨ c = t0 ∨ c = i1 ∨ c = i2 := by simpa using hcm
      rcases hc' with rfl | rfl | rfl | rfl | rfl
      · exact lz
      · exact Heap.lt_size h1
      · exact Heap.lt_size h0
      · obtain ⟨_, q, _⟩ := g1; exact Heap.lt_size q
      · obtain ⟨_, q, _⟩ := g2; exact Heap.lt_size q
    rw [upd_ne (Nat.ne_of_lt lc)]
    exact (hf c hcm).1
  done := by
    intro X hP hw hK hc i pins s σ H E I hf st hg
    subst hP hw hK
    obtain ⟨hz, h1, ⟨x0, y0, h0⟩, g1, g2⟩ := st
    obtain ⟨xs, ys, hqx, hqy, hx, hy⟩ := hg
    obtain ⟨its, rv, p, _⟩ := I.tuple hqx
    obtain ⟨its2, rv2, p2, _⟩ := I.list hqy
    have en : its.toArray.size = i := by
      rw [List.size_toArray, ← rv.length]
      exact hx
    have en2 : its2.toArray.size = i := by
      rw [List.size_toArray, ← rv2.length]
      exact hy
    have D1 := Draws.tuple (prog := X.prog) (w := X.w) (A := X.A.in1) (I.ok.hd hc) i1 a (tup_ne p g1) its.toArray
    have D2 := Draws.list (prog := X.prog) (w := X.w) (A := X.A.in1) (I.ok.hd hc) i2 b (lst_ne p2.isList g2) its2.toArray
    refine wpAny_pyNext_zipD2_end S D1 D2 hz h1 h0 ⟨g1, p⟩ ⟨g2, p2.isList⟩ (Nat.le_of_eq en.symm) (Nat.le_of_eq en2.symm) (.inl en.symm) fun h' tk hk => ⟨rfl, I.turnedL (ch := [z, t1, t0, i1, i2]) (fun c o hb q => ?_) hf⟩
    exact hk c o (fun e => hb (by simp [e])) (fun e => hb (by simp [e])) (fun e => hb (by simp [e])) (fun e => hb (by simp [e])) q
  self := fun A i s Q E st h => wpAny_pyIter_zip st.1 h
def iZipM (K : PySem.W.Frag) (ta : TA) : TI := fun σ H R => ta σ H fun vs H1 => ∃ a b xs ys, vs = [.ref a, .ref b] ∧ SqT K H1 a xs ∧ SqL K H1 b ys ∧ R (Itzm K a b) H1
theorem pi_zipM {X : Cx} {e e2 : Expr} {ta : TA} {p pos tpos : Pos} {elts : List Expr} {kk : Nat} (hg : Gl X "zip") (hm : X.mg "zip" = none) (ha : PA X [e, e2] ta)
    (hs : starEach [e, e2] X.env = (false, eval e X.env) :: starEach [e2] X.env := by rfl) (hpl : (backTo pos (starEach [e2] X.env)).any (·.1) = false := by rfl) :
    PI X (.Tuple elts kk tpos) (.Call (.Name "zip" p) [e, e2] [] pos) (iZipM X.K ta) where
  run := by
    intro pins s σ H R I h
    refine Call_ (ld_blt I hg hm PyProof.Rows.boot_zip (PyProof.Rows.callWith_type1 (thn (ha.run pos pins s σ H _ I h) fun us s1 z => ?_) hs hpl))
    obtain ⟨vs, H1, I1, r1, a, b, xs, ys, rfl, hqx, hqy, q⟩ := z
    match us, r1 with
    | [_, _], .cons rfl (.cons rfl .nil) =>
      obtain ⟨its, rv, p1, _⟩ := I1.tuple hqx
      obtain ⟨its2, rv2, p2, _⟩ := I1.list hqy
      obtain ⟨o1, ho1, _⟩ := id p1
      refine zip_begins2 (begins_tuple a its.toArray) (begins_list b its2.toArray) p1 p2.isList fun h' hz h1 h0 g1 g2 hsz hk => wpAny_pyIter_zip hz ?_
      generalize hn : s1.heap.objs.size = n at *
      have la : a < n := by rw [← hn]; exact Heap.lt_size ho1
      have lb : b < n := by rw [← hn]; exact p2.lt
      have S : ZipSep2 (n + 4) (n + 2) (n + 3) n (n + 1) [n, a] [n + 1, b] := by
        have q := zip_sep2 (N := n) (fp1 := [a]) (fp2 := [b]) (fun c hc => by rw [List.mem_singleton.mp hc]; exact la) (fun c hc => by rw [List.mem_singleton.mp hc]; exact lb)
        exact q
      refine ⟨n + 4, [n + 4, n + 2, n + 3, n, n + 1], _, _, H1, rfl, I1.kept (t' := s1.toks) hk, turn_zm S, ⟨hz, h1, ⟨_, _, h0⟩, ⟨_, g1, rfl, rfl⟩, ⟨_, g2, rfl, rfl⟩⟩, fun c hcm => ?_, q⟩
      have le : s1.heap.objs.size ≤ c := by
        rw [hn]
        have hc' : c = n + 4 ∨ c = n + 2 ∨ c = n + 3 ∨ c = n ∨ c = n + 1 := by simpa using hcm
        rcases hc' with rfl | rfl | rfl | rfl | rfl
        · exact Nat.le_add_right n 4
        · exact Nat.le_add_right n 2
        · exact Nat.le_add_right n 3
        · exact Nat.le_refl c
        · exact Nat.le_add_right n 1
      exact I1.fpOk le (I1.hok.fresh le)
section
variable {K : PySem.W.Frag} {T : List NTab} {mo : Option Addr} {te : TE} {tg : TA} {Γ : List Slot} {d : D} {ds es : List D}
/-- for x, y in zip(tuple, list), both of n items -/
theorem it_zipM {j1 j2 n : Nat} (h : Av K T mo tg Γ [.im (.tup ds), .ls es]) {d1 d2 : Nat → D} (hn : ds.length = n) (hn' : es.length = n) (hd : ∀ i, i < n → ds[i]? = some (d1 i)) (he : ∀ i, i < n → es[i]? = some (d2 i)) :
    IterP K T mo false (iZipM K tg) (gTup K 2 (gCons (gName j1) (gCons (gName j2) gNil))) [j1, j2] Γ n (fun i Γ' => (Γ'.set j1 (.im (d1 i))).set j2 (.im (d2 i))) := fun H0 σ H R E q =>
  h H0 σ H _ E fun vs H1 ks hk e1 r1 => by
    subst hk
    cases r1 with
    | cons r rs =>
      cases rs with
      | cons r' rs =>
        cases rs
        obtain ⟨r, _⟩ := r
        obtain ⟨⟨b, ys, rfl, hm, hs', ha'⟩, _⟩ := r'
        cases r with
        | @tup a xs _ hs ha =>
          refine ⟨a, b, xs, ys, rfl, hs, hs', ?_⟩
          have el := ha.length
          have el' := ha'.length
          refine q (Itzm K a b) H1 (fun H2 => LeM T mo H1 H2) e1 (fun _ t => t) (fun i H' hi t => ⟨xs, ys, xs[i]'(by omega), ys[i]'(by omega), t.tup.sq hs, t.sqL hm hs', by rw [List.getElem?_eq_getElem], by rw [List.getElem?_eq_getElem]⟩)
            (fun H' t => ⟨xs, ys, t.tup.sq hs, t.sqL hm hs', by omega, by omega⟩) fun i H' x H'' hi t y => ?_
          obtain ⟨t', u, u', rfl, hn', rfl, hx, hy⟩ := y
          have e2 := hx xs (t.tup.sq hs)
          have e3 := hy ys (t.sqL hm hs')
          obtain ⟨v, h1, h2⟩ := ha.get (hd i hi)
          obtain ⟨v', h1', h2'⟩ := ha'.get (he i hi)
          rw [h1] at e2
          rw [h1'] at e3
          cases e2
          cases e3
          have n2 := LeM.new (T := T) (mo := mo) (o := .tup [u, u']) hn'
          exact ⟨n2, fun H0' σ' Γ' Q E' q' => gp_ok E' upd_same ((h2.mono t.tup).mono n2.tup) ((h2'.mono t.tup).mono n2.tup) q'⟩
end
end Hn
end

section
set_option Elab.async false
set_option linter.all false
set_option maxHeartbeats 4000000
namespace HnQ
open Rat
/-! ### what ratio reckons -/
def sgcd (a b : Int) : Int := if 0 < b then (Nat.gcd a.natAbs b.natAbs : Nat) else -((Nat.gcd a.natAbs b.natAbs : Nat) : Int)
theorem gcd_pos {a b : Int} (hb : b ≠ 0) : 0 < Nat.gcd a.natAbs b.natAbs := Nat.gcd_pos_of_pos_right _ (by omega)
theorem sgcd_ne {a b : Int} (hb : b ≠ 0) : sgcd a b ≠ 0 := by
  have := gcd_pos (a := a) hb
  unfold sgcd
  split <;> omega
theorem sgcd_num {a b : Int} (hb : b ≠ 0) : a.fdiv (sgcd a b) = (Rat.divInt a b).num := by
  have g0 := gcd_pos (a := a) hb
  have e : Int.gcd b a = Nat.gcd a.natAbs b.natAbs := by rw [Int.gcd_comm]; rfl
  rw [Rat.num_divInt, e]
  have dv : ((Nat.gcd a.natAbs b.natAbs : Nat) : Int) ∣ a := Int.ofNat_dvd_left.mpr (Nat.gcd_dvd_left _ _)
  unfold sgcd
  by_cases h : 0 < b
  · rw [if_pos h, Int.sign_eq_one_of_pos h, Int.one_mul, Int.fdiv_eq_ediv_of_nonneg _ (by omega)]
  · rw [if_neg h, Int.sign_eq_neg_one_of_neg (by omega), Int.neg_one_mul]
    obtain ⟨c, hc⟩ := dv
    have hg : ((Nat.gcd a.natAbs b.natAbs : Nat) : Int) ≠ 0 := by omega
    generalize ((Nat.gcd a.natAbs b.natAbs : Nat) : Int) = g at *
    rw [hc, show g * c = -g * -c by rw [Int.neg_mul_neg], Int.mul_fdiv_cancel_left _ (by omega), show -(-g * -c) = g * -c by rw [← Int.neg_mul, Int.neg_neg], Int.mul_ediv_cancel_left _ hg]
theorem sgcd_den {a b : Int} (hb : b ≠ 0) : b.fdiv (sgcd a b) = ((Rat.divInt a b).den : Int) := by
  have g0 := gcd_pos (a := a) hb
  have e : Int.gcd b a = Nat.gcd a.natAbs b.natAbs := by rw [Int.gcd_comm]; rfl
  rw [Rat.den_divInt, e, if_neg hb]
  unfold sgcd
  by_cases h : 0 < b
  · rw [if_pos h, Int.fdiv_eq_ediv_of_nonneg _ (by omega), Int.natCast_ediv, show (b.natAbs : Int) = b by omega]
  · rw [if_neg h, Int.natCast_ediv, show (b.natAbs : Int) = -b by omega]
    have dv : ((Nat.gcd a.natAbs b.natAbs : Nat) : Int) ∣ b := Int.ofNat_dvd_left.mpr (Nat.gcd_dvd_right _ _)
    obtain ⟨c, hc⟩ := dv
    have hg : ((Nat.gcd a.natAbs b.natAbs : Nat) : Int) ≠ 0 := by omega
    generalize ((Nat.gcd a.natAbs b.natAbs : Nat) : Int) = g at *
    rw [hc, show g * c = -g * -c by rw [Int.neg_mul_neg], Int.mul_fdiv_cancel_left _ (by omega), show -(-g * -c) = g * -c by rw [← Int.neg_mul, Int.neg_neg], Int.mul_ediv_cancel_left _ hg]
theorem num_le {a b : Int} : (Rat.divInt a b).num.natAbs ≤ a.natAbs := by
  by_cases hb : b = 0
  · subst hb
    simp
  · rw [← sgcd_num hb]
    have hn := sgcd_ne (a := a) hb
    have dv : sgcd a b ∣ a := by
      unfold sgcd
      split
      · exact Int.ofNat_dvd_left.mpr (Nat.gcd_dvd_left _ _)
      · exact Int.neg_dvd.mpr (Int.ofNat_dvd_left.mpr (Nat.gcd_dvd_left _ _))
    obtain ⟨c, hc⟩ := dv
    generalize sgcd a b = g at *
    rw [hc, Int.mul_fdiv_cancel_left _ hn, Int.natAbs_mul]
    exact Nat.le_mul_of_pos_left _ (by omega)
theorem den_le {a b : Int} (hb : b ≠ 0) : (Rat.divInt a b).den ≤ b.natAbs := by
  rw [Rat.den_divInt, if_neg hb]
  exact Nat.div_le_self _ _
/-! ### the four operations -/
theorem plus_eq (p q : Rat) : Rat.divInt (p.num * q.den + q.num * p.den) (p.den * q.den) = p + q := by
  have h := Rat.divInt_add_divInt p.num q.num (d₁ := (p.den : Int)) (d₂ := (q.den : Int)) (by have := p.den_pos; omega) (by have := q.den_pos; omega)
  rw [Rat.num_divInt_den, Rat.num_divInt_den] at h
  exact h.symm
theorem minus_eq (p q : Rat) : Rat.divInt (p.num * q.den - q.num * p.den) (p.den * q.den) = p - q := by
  have h := Rat.divInt_sub_divInt p.num q.num (d₁ := (p.den : Int)) (d₂ := (q.den : Int)) (by have := p.den_pos; omega) (by have := q.den_pos; omega)
  rw [Rat.num_divInt_den, Rat.num_divInt_den] at h
  exact h.symm
theorem times_eq (p q : Rat) : Rat.divInt (p.num * q.num) (p.den * q.den) = p * q := by
  have h := Rat.divInt_mul_divInt p.num q.num (d₁ := (p.den : Int)) (d₂ := (q.den : Int))
  rw [Rat.num_divInt_den, Rat.num_divInt_den] at h
  exact h.symm
theorem over_eq (p q : Rat) : Rat.divInt (p.num * q.den) (p.den * q.num) = p / q := by
  rw [Rat.div_def, Rat.inv_def]
  have h := Rat.divInt_mul_divInt p.num (q.den : Int) (d₁ := (p.den : Int)) (d₂ := q.num)
  rw [Rat.num_divInt_den] at h
  exact h.symm
theorem den_ne (q : Rat) : (q.den : Int) ≠ 0 := by have := q.den_pos; omega
theorem dens_ne (p q : Rat) : (p.den : Int) * q.den ≠ 0 := Int.mul_ne_zero (den_ne p) (den_ne q)
theorem num_ne {q : Rat} (h : q ≠ 0) : q.num ≠ 0 := fun e => h (Rat.num_eq_zero.mp e)
theorem less_eq (p q : Rat) : decide (p.num * q.den < q.num * p.den) = decide (p < q) := by
  rw [decide_eq_decide]
  exact (Rat.lt_iff p q).symm
theorem floor_eq (q : Rat) : q.num.fdiv q.den = q.floor := by
  rw [Rat.floor_def, Int.fdiv_eq_ediv_of_nonneg _ (by omega)]
theorem num_pos (q : Rat) : decide (0 < q.num) = decide (0 < q) := by
  rw [decide_eq_decide, Rat.lt_iff]
  simp
theorem num_neg (q : Rat) : decide (q.num < 0) = decide (q < 0) := by
  rw [decide_eq_decide, Rat.lt_iff]
  simp
/-! ### sizes, in bits -/
structure Bd (n d : Nat) (q : Rat) : Prop where
  num : q.num.natAbs < 2 ^ n
  den : q.den < 2 ^ d
abbrev Small (q : Rat) : Prop := Bd 4000 4000 q
theorem two_le {a b : Nat} (h : a ≤ b) : 2 ^ a ≤ 2 ^ b := Nat.pow_le_pow_right (by decide) h
theorem Bd.to {n d m e : Nat} {q : Rat} (h : Bd n d q) (h1 : n ≤ m := by decide) (h2 : d ≤ e := by decide) : Bd m e q := ⟨Nat.lt_of_lt_of_le h.num (two_le h1), Nat.lt_of_lt_of_le h.den (two_le h2)⟩
theorem mul_lt {a b n m : Nat} (h : a < 2 ^ n) (h' : b < 2 ^ m) : a * b < 2 ^ (n + m) := by
  rw [Nat.pow_add]
  exact Nat.mul_lt_mul'' h h'
theorem add_lt {a b n : Nat} (h : a < 2 ^ n) (h' : b < 2 ^ n) : a + b < 2 ^ (n + 1) := by
  rw [Nat.pow_succ]
  omega
theorem nd_lt {n e : Nat} {p q : Rat} (h : p.num.natAbs < 2 ^ n) (h' : q.den < 2 ^ e) : (p.num * q.den).natAbs < 2 ^ (n + e) := by
  rw [Int.natAbs_mul, Int.natAbs_natCast]
  exact mul_lt h h'
theorem Bd.add {n d m e : Nat} {p q : Rat} (h : Bd n d p) (h' : Bd m e q) : Bd (max (n + e) (m + d) + 1) (d + e) (p + q) := by
  rw [← plus_eq]
  constructor
  · refine Nat.lt_of_le_of_lt num_le (Nat.lt_of_le_of_lt (Int.natAbs_add_le _ _) ?_)
    exact add_lt (Nat.lt_of_lt_of_le (nd_lt h.num h'.den) (two_le (by omega))) (Nat.lt_of_lt_of_le (nd_lt h'.num h.den) (two_le (by omega)))
  · refine Nat.lt_of_le_of_lt (den_le (dens_ne p q)) ?_
    rw [Int.natAbs_mul, Int.natAbs_natCast, Int.natAbs_natCast]
    exact mul_lt h.den h'.den
theorem Bd.sub {n d m e : Nat} {p q : Rat} (h : Bd n d p) (h' : Bd m e q) : Bd (max (n + e) (m + d) + 1) (d + e) (p - q) := by
  rw [← minus_eq]
  constructor
  · refine Nat.lt_of_le_of_lt num_le (Nat.lt_of_le_of_lt (Int.natAbs_sub_le _ _) ?_)
    exact add_lt (Nat.lt_of_lt_of_le (nd_lt h.num h'.den) (two_le (by omega))) (Nat.lt_of_lt_of_le (nd_lt h'.num h.den) (two_le (by omega)))
  · refine Nat.lt_of_le_of_lt (den_le (dens_ne p q)) ?_
    rw [Int.natAbs_mul, Int.natAbs_natCast, Int.natAbs_natCast]
    exact mul_lt h.den h'.den
theorem Bd.mul {n d m e : Nat} {p q : Rat} (h : Bd n d p) (h' : Bd m e q) : Bd (n + m) (d + e) (p * q) := by
  rw [← times_eq]
  constructor
  · refine Nat.lt_of_le_of_lt num_le ?_
    rw [Int.natAbs_mul]
    exact mul_lt h.num h'.num
  · refine Nat.lt_of_le_of_lt (den_le (dens_ne p q)) ?_
    rw [Int.natAbs_mul, Int.natAbs_natCast, Int.natAbs_natCast]
    exact mul_lt h.den h'.den
theorem Bd.div {n d m e : Nat} {p q : Rat} (h : Bd n d p) (h' : Bd m e q) (hq : q ≠ 0) : Bd (n + e) (d + m) (p / q) := by
  rw [← over_eq]
  constructor
  · exact Nat.lt_of_le_of_lt num_le (nd_lt h.num h'.den)
  · refine Nat.lt_of_le_of_lt (den_le (Int.mul_ne_zero (den_ne p) (num_ne hq))) ?_
    rw [Int.natAbs_mul, Int.natAbs_natCast]
    exact mul_lt h.den h'.num
theorem bd_int (i : Int) (n : Nat) (h : i.natAbs < 2 ^ n) : Bd n 1 (i : Rat) := ⟨h, by simp⟩
theorem bd_div (a b : Int) (n m : Nat) (h : a.natAbs < 2 ^ n) (h' : b.natAbs < 2 ^ m) (hb : b ≠ 0) : Bd n m (Rat.divInt a b) := ⟨Nat.lt_of_le_of_lt num_le h, Nat.lt_of_le_of_lt (den_le hb) h'⟩
/-- the sum of a list -/
def sum (l : List Rat) : Rat := l.foldl (· + ·) 0
end HnQ
end

section
set_option Elab.async false
set_option linter.all false
set_option maxRecDepth 100000
set_option maxHeartbeats 4000000
/-! more operators: natural numbers, truth values, min of a tuple, repr, // by any divisor -/
namespace Hn
open PySem PySem.Spec PyProof.Rows L2 NdefX LamX HnQ

/-- // by a divisor below 2 ^ 9000, of either sign -/
def CDivZ (_ j : Int) : Prop := j ≠ 0 ∧ j.natAbs.log2 < 9000
def rShr : R2 := rI (fun _ j => 0 ≤ j) fun i j => .int (i / 2 ^ j.toNat)
section
variable {X : Cx}
theorem op_fdivZ : OpR X (binaryOp .FloorDiv) (rI CDivZ fun i j => .int (i.fdiv j)) := opI fun _ _ _ _ _ _ _ hc q => floordiv_int hc.1 q (.inl (PyProof.noPylong_of_log2 hc.2))
theorem op_subB : OpR X (binaryOp .Sub) rSubB := by
  intro pins s σ H x y v u Q I rx ry h
  obtain ⟨a, b, rfl, rfl, q⟩ := h
  cases rx
  cases ry
  refine sub_bool ⟨.int _, H, I.tok _, ⟨_, rfl⟩, ?_⟩
  cases a <;> cases b <;> exact q
end
section
variable {K : PySem.W.Frag} {T : List NTab} {mo : Option Addr} {te ta tb tl th : TE} {tg : TA} {Γ : List Slot} {k : Kd} {d d1 d2 : D} {ds : List D} {i j : Int} {x n m : Nat} {P : Kd → Prop}
theorem toN (n : Nat) : ((n : Nat) : Int).toNat = n := Int.toNat_natCast n
theorem ev_shl1 (ha : Ev K T mo ta Γ (.im (.int 1))) (hb : Ev K T mo tb Γ (.im (.int ((n : Nat) : Int)))) (hn : n ≤ 1000) : Ev K T mo (tOp (rI CPow fun i j => .int (i * 2 ^ j.toNat)) ta tb) Γ (.im (.int ((2 ^ n : Nat) : Int))) :=
  (ev_opI ha hb ⟨by omega, by omega, by decide⟩).as (by
    show Kd.im (.int (1 * 2 ^ ((n : Nat) : Int).toNat)) = _
    rw [toN, Int.one_mul, Int.natCast_pow]
    rfl)
theorem ev_shlN (ha : Ev K T mo ta Γ (.im (.int ((x : Nat) : Int)))) (hb : Ev K T mo tb Γ (.im (.int ((n : Nat) : Int)))) (hn : n ≤ 1000) (hx : x < 2 ^ 64) : Ev K T mo (tOp (rI CPow fun i j => .int (i * 2 ^ j.toNat)) ta tb) Γ (.im (.int ((x * 2 ^ n : Nat) : Int))) :=
  (ev_opI ha hb ⟨by omega, by omega, by rw [Int.natAbs_natCast]; exact hx⟩).as (by
    show Kd.im (.int ((x : Int) * 2 ^ ((n : Nat) : Int).toNat)) = _
    rw [toN, Int.natCast_mul, Int.natCast_pow]
    rfl)
theorem ev_shrN (ha : Ev K T mo ta Γ (.im (.int ((x : Nat) : Int)))) (hb : Ev K T mo tb Γ (.im (.int ((n : Nat) : Int)))) : Ev K T mo (tOp (rI (fun _ j => 0 ≤ j) fun i j => .int (i / 2 ^ j.toNat)) ta tb) Γ (.im (.int ((x / 2 ^ n : Nat) : Int))) :=
  (ev_opI ha hb (by omega)).as (by
    show Kd.im (.int ((x : Int) / 2 ^ ((n : Nat) : Int).toNat)) = _
    rw [toN, Int.natCast_ediv, Int.natCast_pow]
    rfl)
theorem bitAnd_one (x : Nat) : Builtin.bitAnd (x : Int) 1 = ((x % 2 : Nat) : Int) := by
  rw [bitAnd_m1]
  omega
theorem ev_and1 (ha : Ev K T mo ta Γ (.im (.int ((x : Nat) : Int)))) (hb : Ev K T mo tb Γ (.im (.int 1))) : Ev K T mo (tOp (rI0 fun i j => .int (Builtin.bitAnd i j)) ta tb) Γ (.im (.int ((x % 2 : Nat) : Int))) :=
  (ev_opI0 ha hb).as (by rw [bitAnd_one])
theorem ev_mod2 (ha : Ev K T mo ta Γ (.im (.int ((x : Nat) : Int)))) (hb : Ev K T mo tb Γ (.im (.int 2))) : Ev K T mo (tOp (rI (fun _ j => 0 < j) fun i j => .int (i % j)) ta tb) Γ (.im (.int ((x % 2 : Nat) : Int))) :=
  (ev_opI ha hb (by decide)).as (by
    show Kd.im (.int ((x : Int) % 2)) = _
    rw [Int.natCast_emod]
    rfl)
theorem ev_addN (ha : Ev K T mo ta Γ (.im (.int ((x : Nat) : Int)))) (hb : Ev K T mo tb Γ (.im (.int ((n : Nat) : Int)))) : Ev K T mo (tOp (rI0 fun i j => .int (i + j)) ta tb) Γ (.im (.int ((x + n : Nat) : Int))) :=
  (ev_opI0 ha hb).as (by rw [Int.natCast_add])
theorem ev_subB {a b : Bool} (ha : Ev K T mo ta Γ (.im (.bl a))) (hb : Ev K T mo tb Γ (.im (.bl b))) : Ev K T mo (tOp rSubB ta tb) Γ (.im (.int ((if a then 1 else 0) - (if b then 1 else 0)))) :=
  ev_opP ha hb fun k1 k2 p1 p2 => ⟨.bl a, .bl b, p1, p2, fun H x y Q r1 r2 q => by
    cases r1
    cases r2
    exact ⟨a, b, rfl, rfl, q _ _ rfl (.int _) rfl⟩⟩
theorem it_rngN {j : Nat} (h : Av K T mo tg Γ [.im (.int ((n : Nat) : Int))]) (h1 : n ≤ 100000) : IterP K T mo true (iRng1 tg) (gName j) [j] Γ n (fun i Γ' => Γ'.set j (.im (.int ((i : Nat) : Int)))) := by
  have q := it_rng (j := j) h (by omega) (by omega)
  rw [toN] at q
  exact q
/-- rows of n things -/
abbrev rowD (n : Nat) (f : Nat → D) : D := .tup ((List.range n).map f)
theorem at_row {f : Nat → D} (h : x < n) : atI ((List.range n).map f) ((x : Nat) : Int) = some (f x) := atI_nat (by
  rw [List.getElem?_map, List.getElem?_range h]
  rfl)
theorem get_row {f : Nat → D} {i : Nat} (h : i < ((List.range n).map f).length) : ((List.range n).map f)[i]? = some (f i) := by
  rw [List.length_map, List.length_range] at h
  rw [List.getElem?_map, List.getElem?_range h]
  rfl
theorem get_row' {f : Nat → D} {i : Nat} (h : i < n) : ((List.range n).map f)[i]? = some (f i) := by
  rw [List.getElem?_map, List.getElem?_range h]
  rfl
theorem len_row {f : Nat → D} : ((List.range n).map f).length = n := by simp
end

/-! ### min of a tuple of ints -/
section
variable {prog : Program} {w : World} {A : Around} {E : Value → Shared → Prop} {s : Shared} {t : Addr} {its : List Value} {ns : List Int}
theorem min_tup {Q : Value → Shared → Prop} (hh : A.handled = none) (ht : s.heap.IsTuple t its.toArray) (hi : IntsAre its ns) (hne : 0 < ns.length)
    (h : ∀ h' tk M t', (∀ b o, s.heap.get? b = some o → h'.get? b = some o) → M ∈ ns → (∀ a, a ∈ ns → M ≤ a) → Q (.int M t') { s with heap := h', toks := tk }) : wpAny (model prog w) A (call (.builtin "min") [.ref t]) Q E s := by
  obtain ⟨xs, e⟩ := hi.allInts.items
  have hn : numsOf (intItems xs).toList = ns := by rw [← e]; exact hi.numsOf
  rw [nums_intItems] at hn
  subst hn
  rw [e] at ht
  have lt : t < s.heap.objs.size := by obtain ⟨_, q, _⟩ := ht; exact Heap.lt_size q
  have hsz : (s.heap.push { cls := .type "tuple_iterator", data := .fields #[.ref t, .int 0 0] }).objs.size = s.heap.objs.size + 1 := Heap.size_push ..
  refine call_min_walk (wpAny_pyIter_tuple ht ?_)
  refine ⟨_, [_, t], [_], _, _, _, _, rfl, Walks.tuple (A := A.in1) hh _ t (Nat.ne_of_lt lt) (intItems xs), ⟨⟨_, Heap.get?_push_size _ rfl, rfl, rfl⟩, ht.push _⟩, fun c hc => ?_, ?_, CmpOf.ints_lt (numAt xs) (fun _ _ => intItems_at), fun v h' tk hP hk => ?_⟩
  · show c < (s.heap.push _).objs.size
    rw [hsz]
    rcases List.mem_cons.mp hc with rfl | hc
    · exact Nat.lt_succ_self _
    · rw [List.mem_singleton.mp hc]
      exact Nat.lt_succ_of_lt lt
  · rw [List.length_map, Array.length_toList] at hne
    simpa [intItems] using hne
  · have old : ∀ c o, s.heap.get? c = some o → h'.get? c = some o := fun c o e => by
      refine hk c o (fun hm => ?_) (Heap.get?_push_of_some _ e)
      rw [List.mem_singleton.mp hm] at e
      exact Nat.lt_irrefl _ (Heap.lt_size e)
    rw [List.length_map, Array.length_toList] at hne
    have hP2 : (intItems xs)[argBest (fun i j => decide (numAt xs i < numAt xs j)) (xs.size - 1)]? = some v := by simpa [intItems] using hP
    obtain ⟨t', rfl⟩ := intItems_at hP2
    obtain ⟨h1, h2⟩ := argBest_lt (numAt xs) (xs.size - 1)
    refine h h' tk _ t' old ?_ fun a ha => ?_
    · rw [numAt_eq]
      exact PySem.getD_mem (by rw [List.length_map, Array.length_toList]; omega)
    · obtain ⟨j, hj, rfl⟩ := mem_getD ha
      rw [List.length_map, Array.length_toList] at hj
      rw [← numAt_eq]
      exact h2 j (by omega)
end
/-- min(tuple) -/
def rMinTp (K : PySem.W.Frag) : List V → Hp → VK → Prop := fun vs H Q => ∃ (a : Addr) (ns : List Int), vs = [V.ref a] ∧ SqT K H a (ns.map V.int) ∧ 0 < ns.length ∧ ∀ m, m ∈ ns → (∀ y, y ∈ ns → m ≤ y) → Q (.int m) H
theorem c_minT {X : Cx} (hc : X.calm = true) : CallR X (.builtin "min") (rMinTp X.K) := by
  intro pins s σ H vs us Q I r h
  obtain ⟨a, ns, rfl, hs, hne, q⟩ := h
  obtain ⟨its, rv, ht, _⟩ := I.tuple hs
  match us, r with
  | [_], .cons rfl .nil => exact min_tup (I.ok.hd hc) ht rv.ints hne fun h' tk m t' hk h1 h2 => ⟨.int _, H, I.kept hk, ⟨_, rfl⟩, q m h1 h2⟩
theorem ev_minT {K : PySem.W.Frag} {T : List NTab} {mo : Option Addr} {ta : TE} {Γ : List Slot} {ns : List Int} {m : Int} (h : Ev K T mo ta Γ (.im (.tup (ns.map D.int)))) (h1 : m ∈ ns) (h2 : ∀ y, y ∈ ns → m ≤ y) : Ev K T mo (tCB (rMinTp K) (tCons ta tNil)) Γ (.im (.int m)) := ev_c1 h fun H H1 v Q _ _ r q => by
  cases r with
  | @tup a xs _ hs ha =>
    rw [ha.ints] at hs
    refine ⟨a, ns, rfl, hs, List.length_pos_of_mem h1, fun m' a1 a2 => ?_⟩
    have e : m' = m := Int.le_antisymm (a2 m h1) (h2 m' a1)
    subst e
    exact q _ H1 LeM.refl (.int _)

/-! ### repr of data -/
def rReprD (K : PySem.W.Frag) : List V → Hp → VK → Prop := fun vs H Q => ∃ (a : Addr) (d : PyData), vs = [V.ref a] ∧ Dp K H (.ref a) d ∧ d.showable = true ∧ d.hasDict = false ∧ d.depth ≤ 64 ∧ d.shown.length ≤ sizeLine ∧ Q (.str d.shown) H
theorem c_repr {X : Cx} {k : Nat} (hr : Room k X.A) (gd : X.A.guards = some []) : CallR X (.builtin "repr") (rReprD X.K) := by
  intro pins s σ H vs us Q I r h
  obtain ⟨a, d, rfl, hd, h1, h2, h3, h4, q⟩ := h
  match us, r with
  | [_], .cons rfl .nil =>
    obtain ⟨as, rd⟩ := Dp.reads I d (.ref a) (.ref a) hd rfl
    have hu := hr.un
    refine repr_of_reads' rd h1 (fun z => by rw [h2] at z; cases z) gd (by omega) (fun _ _ e => e) (fun h' u tk hk => ⟨.str _, H, I.kept hk, ⟨_, rfl⟩, q⟩) h4
end Hn
end

section
set_option Elab.async false
set_option linter.all false
set_option maxRecDepth 100000
set_option maxHeartbeats 4000000
/-! rules named by K, range objects, dicts of one's own, star, pop, membership -/
namespace Hn
open PySem PySem.Spec PyProof.Rows L2 NdefX LamX HnQ
section
variable {X : Cx} {K : PySem.W.Frag}
theorem ixT (h : X.K = K) : IxR X (rIxT K) := h ▸ ix_tup
theorem ixL (h : X.K = K) : IxR X (rIxL K) := h ▸ ix_list
theorem lenK (h : X.K = K) : CallR X (.builtin "len") (rLenA K) := h ▸ c_len
theorem allK (h : X.K = K) (hc : X.calm = true) : CallR X (.builtin "all") (rAll K) := h ▸ cr_all hc
theorem sumK (h : X.K = K) (hc : X.calm = true) : CallR X (.builtin "sum") (rSum K) := h ▸ cr_sum hc
theorem tupK (h : X.K = K) : CallR X (.type "tuple") (rTupA K) := h ▸ c_tup
theorem isiK (h : X.K = K) : CallR X (.builtin "isinstance") (rIsi K) := h ▸ call_isi
theorem minTK (h : X.K = K) (hc : X.calm = true) : CallR X (.builtin "min") (rMinTp K) := h ▸ c_minT hc
theorem eqDK (h : X.K = K) (hu : X.A.units + 64 < cLine) : OpR X (compareOp .Eq) (rEqD K) := h ▸ op_eqD hu
theorem neDK (h : X.K = K) (hu : X.A.units + 64 < cLine) : OpR X (compareOp .NotEq) (rNeD K) := h ▸ op_neD hu
theorem _root_.L2.Room.un65 {k : Nat} {A : Around} (r : Room k A) : A.units + 65 < cLine := by have := r.un; omega
/-- range(n) as a value -/
def rRngA : List V → Hp → VK → Prop := fun vs H Q => ∃ j, vs = [V.int j] ∧ ∀ p, H p = none → Q (.ref p) (upd H p (.rng 0 j))
theorem c_range1 : CallR X (.type "range") rRngA := by
  intro pins s σ H vs us Q I r h
  obtain ⟨j, rfl, q⟩ := h
  match us, r with
  | [_], .cons rj .nil =>
    obtain ⟨u, rfl⟩ := rj
    refine call_range_1 ⟨.ref s.heap.objs.size, upd H s.heap.objs.size (.rng 0 j), I.laid (t' := s.toks + 1 + 1) (fun b o e => Heap.get?_push_of_some _ e) (Nat.le_refl _) ?_, rfl, q _ (I.hok.fresh (Nat.le_refl _))⟩
    exact ⟨s.toks, u, s.toks + 1, Heap.get?_push_size _ rfl⟩
/-- a range object that stands, walked -/
def iRgV (ta : TE) : TI := fun σ H R => ta σ H fun x H1 => ∃ (a : Addr) (j : Int), x = V.ref a ∧ H1 a = some (.rng 0 j) ∧ -(2 ^ 62) ≤ j ∧ j < 2 ^ 62 ∧ R (Itr 0 j.toNat) H1
theorem pi_rg {tg e : Expr} {ta : TE} (he : PE X e ta) : PI X tg e (iRgV ta) := by
  refine ⟨fun pins s σ H R I h => ?_⟩
  refine thn (he.run pins s σ H _ I h) fun v s1 ⟨x, H1, I1, r1, q1⟩ => ?_
  obtain ⟨a, j, e, hr, h1, h2, q⟩ := q1
  subst e
  cases r1
  obtain ⟨t, u, v, ho⟩ : ∃ t u v, s1.heap.get? a = some { cls := .type "range", data := .fields #[.int 0 t, .int j u, .int 1 v] } := I1.hok a _ hr
  refine wpAny_pyIter_range (show IsRange s1.heap a 0 j 1 t u v from ho) (small_one (by omega) (by omega) h1 h2) ?_
  refine ⟨s1.heap.objs.size, [s1.heap.objs.size], _, _, H1, rfl, I1.kept (t' := s1.toks) fun b o e => Heap.get?_push_of_some _ e, turn_range _ 0 j.toNat, ?_, fun b hb => ?_, q⟩
  · have e1 : (0 : Int) + ((0 : Nat) : Int) * 1 = 0 := by simp
    have e2 : ((j.toNat : Nat) : Int) - ((0 : Nat) : Int) = Builtin.Range.rangeSize 0 j 1 := by rw [rangeSize_one]; split <;> omega
    show IsRangeIter _ _ ((0 : Int) + ((0 : Nat) : Int) * 1) (((j.toNat : Nat) : Int) - ((0 : Nat) : Int)) 1
    rw [e1, e2]
    exact Heap.get?_push_size _ rfl
  · have e : b = s1.heap.objs.size := by simpa using hb
    subst e
    exact I1.fpOk (Nat.le_refl _) (I1.hok.fresh (Nat.le_refl _))
end
section
variable {K : PySem.W.Frag} {T : List NTab} {mo : Option Addr} {w : Bool} {te ta tb : TE} {tt tu tt1 : TT} {tg : TA} {Γ : List Slot} {k : Kd} {P P1 P2 : Kd → Prop} {b : Bool} {d d1 d2 : D} {ds : List D} {i j : Int} {wi wi1 : TI} {g g1 : TG} {js js1 vs vs1 : List Nat} {n n1 : Nat} {up up1 : Nat → List Slot → List Slot}
theorem ev_range (h : Ev K T mo ta Γ (.im (.int j))) : Ev K T mo (tCB rRngA (tCons ta tNil)) Γ (.rg 0 j) := fun H0 σ H Q E q =>
  h H0 σ H _ E fun v H1 k p e r => by
    subst p
    cases r
    refine ⟨j, rfl, fun p hp => q (.ref p) _ _ rfl (e.trans (.new hp)) ⟨p, rfl, (E.on e).wl.no hp, upd_same⟩⟩
theorem it_rgN {j n : Nat} (h : Ev K T mo te Γ (.rg 0 ((n : Nat) : Int))) (h1 : n ≤ 100000) : IterP K T mo true (iRgV te) (gName j) [j] Γ n (fun i Γ' => Γ'.set j (.im (.int ((i : Nat) : Int)))) := fun H0 σ H R E q =>
  h H0 σ H _ E fun v H1 k hk e1 r1 => by
    subst hk
    obtain ⟨a, rfl, _, ha⟩ := r1
    refine ⟨a, n, rfl, ha, by omega, by omega, ?_⟩
    rw [Int.toNat_natCast]
    refine q (Itr 0 n) H1 (fun _ => True) e1 (fun _ _ => trivial) (fun i H' hi _ => hi) (fun H' _ => Nat.le_refl _) fun i H' x H'' hi _ y => ?_
    obtain ⟨e, rfl⟩ := y
    subst e
    refine ⟨LeM.refl, fun H0' σ' Γ' Q E' q' => ?_⟩
    rw [Int.zero_add]
    exact gn_ok E' (.int _) q'
/-- two clauses, the second's test never holds: the list stays empty -/
theorem ev_lc2N (hi : IterP K T mo w wi g js Γ n up) (hi1 : ∀ i, i < n → IterP K T mo w wi1 g1 js1 (up i (wipeS Γ vs)) n1 up1) (ht : ∀ i j, i < n → j < n1 → Tv K T mo tt1 (up1 j (wipeS (up i (wipeS Γ vs)) vs1)) false)
    (hjs : ∀ j, j ∈ js → j ∈ vs) (hjs1 : ∀ j, j ∈ js1 → j ∈ vs1) : Ev K T mo (tLc2 wi g tYes wi1 g1 tt1 te vs vs1) Γ (.fl []) := fun H0 σ H Q E q =>
  hi H0 σ H _ E fun J H1 G e1 hG hgo hstop hy Dl hD => by
    have E1 := E.on e1
    have mD : mo ≠ some Dl := E1.wl.no hD
    refine ⟨fun i m H' => m = n - i ∧ i ≤ n ∧ LeM T mo H1 H' ∧ H' Dl = some (.lst []), ⟨n, rfl, Nat.zero_le _, LeM.new hD, upd_same⟩, ?_⟩
    rintro i m H' ⟨rfl, hin, pl, pD⟩
    by_cases hlt : i < n
    · refine .inr ⟨hgo i H' hlt (hG H' (.of pl)), fun H2 => LeM T mo H1 H2 ∧ H2 Dl = some (.lst []), fun H2 p => ⟨n - (i + 1), by omega, rfl, hlt, p⟩, fun x H'' y => ?_⟩
      obtain ⟨ly, hg⟩ := hy i H' x H'' hlt (hG H' (.of pl)) y
      have E2 : EnvOk K T mo H0 H'' (L2.wipe σ vs) (wipeS Γ vs) := ((E1.on pl).on ly).wipe vs
      refine hg H0 _ _ _ E2 fun σ2 E3 hw => ⟨(hw vs hjs).trans wipe_wipe, ?_⟩
      refine hi1 i hlt H0 σ2 H'' _ E3 fun J1 H4 G1 e4 hG1 hgo1 hstop1 hy1 => ?_
      refine ⟨fun j m H5 => m = n1 - j ∧ j ≤ n1 ∧ LeM T mo H4 H5, ⟨n1, rfl, Nat.zero_le _, LeM.refl⟩, ?_⟩
      rintro j m H5 ⟨rfl, hjn, p5⟩
      have l5 := ((pl.trans ly).trans e4).trans p5
      have d5 := p5.lst mD (e4.lst mD (ly.lst mD pD))
      by_cases hlt1 : j < n1
      · refine .inr ⟨hgo1 j H5 hlt1 (hG1 H5 (.of p5)), fun H6 => LeM T mo H4 H6, fun H6 p => ⟨n1 - (j + 1), by omega, rfl, hlt1, p⟩, fun x1 H6 y1 => ?_⟩
        obtain ⟨ly1, hg1⟩ := hy1 j H5 x1 H6 hlt1 (hG1 H5 (.of p5)) y1
        have E6 : EnvOk K T mo H0 H6 (L2.wipe σ2 vs1) (wipeS (up i (wipeS Γ vs)) vs1) := (((E3.on e4).on p5).on ly1).wipe vs1
        refine hg1 H0 _ _ _ E6 fun σ3 E7 hw1 => ⟨(hw1 vs1 hjs1).trans wipe_wipe, ?_⟩
        refine ht i j hlt hlt1 H0 σ3 H6 _ E7 fun c H7 hc e7 => ?_
        subst hc
        exact (p5.trans ly1).trans e7
      · have e : j = n1 := by omega
        subst e
        exact .inl ⟨hstop1 H5 (hG1 H5 (.of p5)), l5, d5⟩
    · have e : i = n := by omega
      subst e
      exact .inl ⟨hstop H' (hG H' (.of pl)), q (.ref Dl) H' _ rfl (e1.trans pl) ⟨Dl, [], rfl, e1.fresh hD, pD, .nil⟩⟩
end
/-! ### dicts of one's own -/
/-- what is held at an int key -/
def getI : List (Int × D) → Int → Option D
  | [], _ => none
  | (j, e) :: r, i => if j = i then some e else getI r i
section
variable {K : PySem.W.Frag} {T : List NTab} {mo : Option Addr} {w : Bool} {H0 H : Hp} {σ : L2.St} {a : Addr} {te ta tb td ty : TE} {Γ : List Slot} {d d1 : D} {ds : List D} {N : List Slot → Prop} {R : Kd → Prop} {P : Kd → Prop} {kvs : List (Int × D)} {i j : Int}
theorem DcR.get : ∀ {xs : List (Key × V)} {kvs : List (Int × D)} (i : Int), DcR K H xs kvs → (∀ d, getI kvs i = some d → ∃ v, valV xs (.inl i) = some v ∧ Rp K H v d) ∧ (getI kvs i = none → valV xs (.inl i) = none)
  | _, _, i, .nil => ⟨fun d h => (nomatch h), fun _ => rfl⟩
  | (k, v) :: xs, (j, d) :: kvs, i, .cons h t => by
    obtain ⟨h1, h2⟩ := h
    simp only at h1
    subst h1
    obtain ⟨g1, g2⟩ := DcR.get i t
    unfold getI
    by_cases e : j = i
    · subst e
      rw [if_pos rfl]
      exact ⟨fun d' z => by cases z; exact ⟨v, valV_pos (p := (Sum.inl j, v)) rfl, h2⟩, fun z => nomatch z⟩
    · rw [if_neg e, valV_neg (p := (Sum.inl j, v)) (fun z => e (Sum.inl.inj z))]
      exact ⟨g1, g2⟩
theorem DcR.len {xs : List (Key × V)} (h : DcR K H xs kvs) : xs.length = kvs.length := by
  induction h with
  | nil => rfl
  | cons _ _ ih => simp [ih]
theorem DcR.put {xs : List (Key × V)} {v : V} (h : DcR K H xs kvs) (hn : getI kvs i = none) (hv : Rp K H v d) : DcR K H (putK xs (.inl i) v) (kvs ++ [(i, d)]) := by
  unfold putK
  rw [if_neg (by rw [valV_any, (DcR.get i h).2 hn]; exact Bool.false_ne_true)]
  exact Paired.snoc h ⟨rfl, hv⟩
theorem EnvOk.putOd (E : EnvOk K T mo H0 H σ Γ) {n : Nat} {xs ys : List (Key × V)} {kvs' : List (Int × D)} (hi : Γ[n]? = some (.od kvs)) (hs : σ[n]? = some (some (.ref a))) (hl : H a = some (.dK xs)) (hr : DcR K H ys kvs') :
    EnvOk K T mo H0 (upd H a (.dK ys)) σ (Γ.set n (.od kvs')) := by
  obtain ⟨a', xs', g1, g2, g3, g4, g5⟩ := E.sl n _ hi
  rw [hs] at g1
  cases g1
  have t : TupLe H (upd H a (.dK ys)) := tup_upd hl (fun _ z => nomatch z) (fun _ _ z => nomatch z)
  have oi : OwnAt Γ σ n a := ⟨⟨_, hi, rfl⟩, hs⟩
  refine ⟨E.le.mutD g2 g3 hl, fun b q => ?_, tabs_updD hl E.tb, by simp [E.len], fun j s hj => ?_, fun p q b n' h1 h2 => ?_⟩
  · obtain ⟨x, y, z, h1, h2, h3, h4⟩ := E.wl b q
    exact ⟨x, y, z, h1, h2, h3, by rw [upd_ne (fun e => g3 (by rw [← e]; exact q))]; exact h4⟩
  · by_cases e : n = j
    · subst e
      rw [List.getElem?_set_self (List.getElem?_eq_some_iff.mp hi).1] at hj
      cases hj
      exact ⟨a, ys, hs, g2, g3, upd_same, hr.mono t⟩
    · rw [List.getElem?_set_ne e] at hj
      have q := E.sl j s hj
      cases s with
      | none => trivial
      | im d => obtain ⟨v, q1, q2⟩ := q; exact ⟨v, q1, q2.mono t⟩
      | par k => exact q
      | ls ds =>
        obtain ⟨v, q1, c, us, q2, q3, q4, q5⟩ := q
        refine ⟨v, q1, c, us, q2, q3, ?_, q5.mono t⟩
        rcases q4 with (q4 | ⟨u, q4⟩) | q4
        · exact .inl (.inl (by rw [upd_ne (ne_of q4 hl (fun z => nomatch z))]; exact q4))
        · exact .inl (.inr ⟨u, by rw [upd_ne (ne_of q4 hl (fun z => nomatch z))]; exact q4⟩)
        · exact .inr q4
      | own ds' =>
        obtain ⟨c, us, q1, q2, q3, q4, q5⟩ := q
        have nc : c ≠ a := ne_of q4 hl (fun z => nomatch z)
        exact ⟨c, us, q1, q2, q3, by rw [upd_ne nc]; exact q4, q5.mono t⟩
      | od kvs =>
        obtain ⟨c, us, q1, q2, q3, q4, q5⟩ := q
        have nc : c ≠ a := fun z => E.dj n j a e oi ⟨⟨_, hj, rfl⟩, by rw [← z]; exact q1⟩
        exact ⟨c, us, q1, q2, q3, by rw [upd_ne nc]; exact q4, q5.mono t⟩
      | rg lo hi' =>
        obtain ⟨v, q1, c, q2, q3, q4⟩ := q
        have nc : c ≠ a := ne_of q4 hl (fun z => nomatch z)
        exact ⟨v, q1, c, q2, q3, by rw [upd_ne nc]; exact q4⟩
  · have at_ : ∀ p, OwnAt (Γ.set n (.od kvs')) σ p b → OwnAt Γ σ p b := fun p ⟨⟨s, y1, y2⟩, y3⟩ => by
      by_cases e : n = p
      · subst e
        exact ⟨⟨_, hi, rfl⟩, y3⟩
      · rw [List.getElem?_set_ne e] at y1
        exact ⟨⟨s, y1, y2⟩, y3⟩
    exact E.dj p q b n' (at_ p h1) (at_ q h2)
/-- a new dict becomes one's own -/
theorem EnvOk.newOd (E : EnvOk K T mo H0 H σ Γ) (n : Nat) (ha : H a = none) : EnvOk K T mo H0 (upd H a (.dK [])) (σ.set n (some (.ref a))) (Γ.set n (.od [])) := by
  have F := E.on (LeM.new (o := .dK []) ha)
  have tr : ∀ p c, OwnAt Γ σ p c → c ≠ a := fun p c ⟨⟨s, g1, g2⟩, g3⟩ z => by
    have q := E.sl p s g1
    cases s with
    | own ds =>
      obtain ⟨c', ys, q1, _, _, q4, _⟩ := q
      rw [g3] at q1
      cases q1
      rw [z, ha] at q4
      cases q4
    | od kvs =>
      obtain ⟨c', ys, q1, _, _, q4, _⟩ := q
      rw [g3] at q1
      cases q1
      rw [z, ha] at q4
      cases q4
    | _ => cases g2
  refine ⟨F.le, F.wl, F.tb, by simp [F.len], fun j s' hj => ?_, fun p q c m g1 g2 => ?_⟩
  · by_cases e : n = j
    · subst e
      have hi : n < Γ.length := by
        have := (List.getElem?_eq_some_iff.mp hj).1
        simpa using this
      rw [List.getElem?_set_self hi] at hj
      cases hj
      rw [List.getElem?_set_self (by rw [F.len]; exact hi)]
      exact ⟨a, [], rfl, E.le.fresh ha, E.wl.no ha, upd_same, .nil⟩
    · rw [List.getElem?_set_ne e] at hj ⊢
      exact F.sl j s' hj
  · have at_ : ∀ p, OwnAt (Γ.set n (.od [])) (σ.set n (some (.ref a))) p c → (p = n ∧ c = a) ∨ OwnAt Γ σ p c := fun p ⟨⟨s', g1, g2⟩, g3⟩ => by
      by_cases e : n = p
      · subst e
        have hi : n < σ.length := by
          have := (List.getElem?_eq_some_iff.mp g3).1
          simpa using this
        rw [List.getElem?_set_self hi] at g3
        cases g3
        exact .inl ⟨rfl, rfl⟩
      · rw [List.getElem?_set_ne e] at g1 g3
        exact .inr ⟨⟨s', g1, g2⟩, g3⟩
    rcases at_ p g1 with ⟨z1, z2⟩ | z1
    · rcases at_ q g2 with ⟨y1, y2⟩ | y1
      · exact m (z1.trans y1.symm)
      · exact tr q c y1 z2
    · rcases at_ q g2 with ⟨y1, y2⟩ | y1
      · exact tr p c z1 y2
      · exact E.dj p q c m z1 y1
/-- name = {} -/
theorem st_dnew {n : Nat} : StP K T mo w (tAsg tDNewK (gName n)) Γ (fun Γ' => Γ' = Γ.set n (.od [])) R := fun H0 σ H D E q1 q2 => fun p hp =>
  q1 _ _ _ rfl (E.newOd n hp) (.of (.new hp))
theorem ev_dget (hd : Ev K T mo td Γ (.dc kvs)) (hi : Ev K T mo ty Γ (.im (.int i))) (h : getI kvs i = some d) : Ev K T mo (tDGet td ty) Γ (.im d) := fun H0 σ H Q E q =>
  hd H0 σ H _ E fun x H1 k p e1 r1 => hi H0 σ H1 _ (E.on e1) fun y H2 k2 p2 e2 r2 => by
    subst p p2
    cases r2
    have r1 := r1.on E.wl e2
    obtain ⟨a, xs, rfl, _, h3, h4⟩ := r1
    obtain ⟨v, g1, g2⟩ := (h4.get i).1 d h
    exact ⟨a, v, rfl, by rw [← g1]; exact DGet.k (k := .inl i) h3, q v H2 _ rfl (e1.trans e2) g2⟩
theorem ev_dnotin (hi : Ev K T mo ty Γ (.im (.int i))) (hd : Ev K T mo td Γ (.dc kvs)) : Ev K T mo (tDNotIn ty td) Γ (.im (.bl (getI kvs i).isNone)) := fun H0 σ H Q E q =>
  hi H0 σ H _ E fun y H1 k p e1 r1 => hd H0 σ H1 _ (E.on e1) fun x H2 k2 p2 e2 r2 => by
    subst p p2
    cases r1
    obtain ⟨a, xs, rfl, _, h3, h4⟩ := r2
    refine ⟨a, _, rfl, DGet.k (k := .inl i) h3, q _ H2 _ rfl (e1.trans e2) ?_⟩
    have e : (!(valV xs (.inl i)).isSome) = (getI kvs i).isNone := by
      cases q : getI kvs i with
      | none => rw [(h4.get i).2 q]; rfl
      | some d =>
        obtain ⟨v, g1, _⟩ := (h4.get i).1 d q
        rw [g1]
        rfl
    rw [e]
    exact .bl _
/-- name[e] = e2, at a key that is not there -/
theorem st_dput {n : Nat} (hg : Γ[n]? = some (.od kvs)) (hl : kvs.length ≤ 1000) (hv : Ev K T mo te Γ (.im d)) (hi : Ev K T mo ty Γ (.im (.int i))) (hn : getI kvs i = none) :
    StP K T mo true (tAsg te (gSub (tVar n) ty rSetD)) Γ (fun Γ' => Γ' = Γ.set n (.od (kvs ++ [(i, d)]))) R := fun H0 σ H D E q1 q2 =>
  hv H0 σ H _ E fun v H1 k p e1 r1 => by
    subst p
    obtain ⟨a, xs, g1, g2, g3, g4, g5⟩ := E.sl n _ hg
    refine ⟨.ref a, g1, ?_⟩
    refine hi H0 σ H1 _ (E.on e1) fun y H2 k2 p2 e2 r2 => ?_
    subst p2
    cases r2
    have e12 := e1.trans e2
    have h4 := e12.keep a _ g3 g4 (fun _ z => nomatch z)
    have h5 := g5.mono e12.tup
    refine ⟨a, _, rfl, DPut.k (k := .inl i) h4 (by rw [h5.len, sizeLine_eq]; omega), ?_⟩
    exact q1 _ _ _ rfl ((E.on e12).putOd hg g1 h4 (h5.put hn (r1.mono e2.tup))) (e12.tup.trans (tup_upd h4 (fun _ z => nomatch z) (fun _ _ z => nomatch z)))
/-- name[e], other = (d, new list) -/
theorem st_dputL {n m : Nat} (hg : Γ[n]? = some (.od kvs)) (hl : kvs.length ≤ 1000) (hv : Ev K T mo ta Γ (.im d)) (hb : Ev K T mo tb Γ (.fl ds)) (hi : ∀ Γ', Γ' = Γ → Ev K T mo ty Γ' (.im (.int i))) (hn : getI kvs i = none) (hnm : n ≠ m) (hm : ∃ s, Γ[m]? = some s ∧ s.isOwn = false ∨ ∃ es, Γ[m]? = some (.own es)) :
    StP K T mo true (tAsg (tTup (tCons ta (tCons tb tNil))) (gTup K 2 (gCons (gSub (tVar n) ty rSetD) (gCons (gName m) gNil)))) Γ (fun Γ' => Γ' = (Γ.set n (.od (kvs ++ [(i, d)]))).set m (.own ds)) R := fun H0 σ H D E q1 q2 =>
  hv H0 σ H _ E fun v H1 k p e1 r1 => hb H0 σ H1 _ (E.on e1) fun u H2 k2 p2 e2 r2 => by
    subst p p2
    refine ⟨by rw [sizeLine_eq]; exact Nat.le_of_ble_eq_true rfl, fun t ht => ?_⟩
    have e12 := e1.trans e2
    have e123 : LeM T mo H (upd H2 t (.tup [v, u])) := e12.trans (.new ht)
    refine ⟨t, _, rfl, .inl (.inl upd_same), rfl, v, [u], rfl, ?_⟩
    obtain ⟨a, xs, g1, g2, g3, g4, g5⟩ := E.sl n _ hg
    refine ⟨.ref a, g1, ?_⟩
    refine hi Γ rfl H0 σ _ _ (E.on e123) fun y H4 k3 p3 e3 r3 => ?_
    subst p3
    cases r3
    have e14 := e123.trans e3
    have e24 : LeM T mo H2 H4 := (LeM.new ht).trans e3
    have h4 := e14.keep a _ g3 g4 (fun _ z => nomatch z)
    have h5 := g5.mono e14.tup
    refine ⟨a, _, rfl, DPut.k (k := .inl i) h4 (by rw [h5.len, sizeLine_eq]; omega), u, [], rfl, rfl, ?_⟩
    obtain ⟨b, us, rfl, b1, b2, b3⟩ := r2
    have nba : b ≠ a := fun z => by
      rw [z] at b1
      have := (E.on e1).wl
      have h41 := e1.keep a _ g3 g4 (fun _ z => nomatch z)
      rw [b1] at h41
      cases h41
    have nbm : mo ≠ some b := (E.on e1).wl.no b1
    have b4 := e24.lst nbm b2
    have E4 : EnvOk K T mo H0 (upd H4 a (.dK (putK xs (.inl i) v))) σ (Γ.set n (.od (kvs ++ [(i, d)]))) := (E.on e14).putOd hg g1 h4 (h5.put hn ((r1.mono e2.tup).mono e24.tup))
    -- the new list: it was not there at H1
    have b5 : upd H4 a (.dK (putK xs (.inl i) v)) b = some (.lst us) := by rw [upd_ne nba]; exact b4
    have t5 : TupLe H4 (upd H4 a (.dK (putK xs (.inl i) v))) := tup_upd h4 (fun _ z => nomatch z) (fun _ _ z => nomatch z)
    have b6 : RpA K (upd H4 a (.dK (putK xs (.inl i) v))) us ds := (b3.mono e24.tup).mono t5
    refine q1 _ _ _ rfl ?_ (e14.tup.trans t5)
    have tr : ∀ p c, OwnAt Γ σ p c → c ≠ b := fun p c ⟨⟨s, y1, y2⟩, y3⟩ z => by
      have q := (E.on e1).sl p s y1
      cases s with
      | own ds =>
        obtain ⟨c', ys, q1, _, _, q4, _⟩ := q
        rw [y3] at q1
        cases q1
        rw [z, b1] at q4
        cases q4
      | od kvs =>
        obtain ⟨c', ys, q1, _, _, q4, _⟩ := q
        rw [y3] at q1
        cases q1
        rw [z, b1] at q4
        cases q4
      | _ => cases y2
    have tr2 : ∀ p c, OwnAt (Γ.set n (.od (kvs ++ [(i, d)]))) σ p c → c ≠ b := fun p c ⟨⟨s, y1, y2⟩, y3⟩ => by
      by_cases e : n = p
      · subst e
        exact tr n c ⟨⟨_, hg, rfl⟩, y3⟩
      · rw [List.getElem?_set_ne e] at y1
        exact tr p c ⟨⟨s, y1, y2⟩, y3⟩
    refine ⟨E4.le, E4.wl, E4.tb, by simp [E4.len], fun j s' hj => ?_, fun p q c m' g1 g2 => ?_⟩
    · by_cases e : m = j
      · subst e
        have hi : m < (Γ.set n (.od (kvs ++ [(i, d)]))).length := by
          have := (List.getElem?_eq_some_iff.mp hj).1
          simpa using this
        rw [List.getElem?_set_self hi] at hj
        cases hj
        rw [List.getElem?_set_self (by rw [E4.len]; exact hi)]
        exact ⟨b, us, rfl, (E.on e1).le.fresh b1, nbm, b5, b6⟩
      · rw [List.getElem?_set_ne e] at hj ⊢
        exact E4.sl j s' hj
    · have at_ : ∀ p, OwnAt ((Γ.set n (.od (kvs ++ [(i, d)]))).set m (.own ds)) (σ.set m (some (.ref b))) p c → (p = m ∧ c = b) ∨ OwnAt (Γ.set n (.od (kvs ++ [(i, d)]))) σ p c := fun p ⟨⟨s', g1, g2⟩, g3⟩ => by
        by_cases e : m = p
        · subst e
          have hi : m < σ.length := by
            have := (List.getElem?_eq_some_iff.mp g3).1
            simpa using this
          rw [List.getElem?_set_self hi] at g3
          cases g3
          exact .inl ⟨rfl, rfl⟩
        · rw [List.getElem?_set_ne e] at g1 g3
          exact .inr ⟨⟨s', g1, g2⟩, g3⟩
      rcases at_ p g1 with ⟨z1, z2⟩ | z1
      · rcases at_ q g2 with ⟨y1, y2⟩ | y1
        · exact m' (z1.trans y1.symm)
        · exact tr2 q c y1 z2
      · rcases at_ q g2 with ⟨y1, y2⟩ | y1
        · exact tr2 p c z1 y2
        · exact E4.dj p q c m' z1 y1
theorem KrA_app {vs : List V} {es : List D} : ∀ {xs : List V} {ds : List D}, RpA K H xs ds → KrA K mo H vs (es.map Kd.im) → KrA K mo H (xs ++ vs) ((ds ++ es).map Kd.im)
  | _, _, .nil, r => r
  | _, _, .cons h t, r => .cons ⟨h, .inl rfl⟩ (KrA_app t r)
/-- (*e, ..) -/
theorem av_star {tg : TA} {es : List D} (h : Ev K T mo ta Γ (.im (.tup ds))) (hr : Av K T mo tg Γ (es.map Kd.im)) : Av K T mo (StX.tStar K ta tg) Γ ((ds ++ es).map Kd.im) := fun H0 σ H Q E q =>
  h H0 σ H _ E fun x H1 k p e1 r1 => by
    subst p
    cases r1 with
    | @tup a xs _ hs ha =>
      refine ⟨a, xs, rfl, .inl hs, hr H0 σ H1 _ (E.on e1) fun vs H2 ks p2 e2 r2 => ?_⟩
      subst p2
      exact q (xs ++ vs) H2 _ rfl (e1.trans e2) (KrA_app (ha.mono e2.tup) r2)
/-- name = other.pop(0) -/
theorem st_pop {n m : Nat} (hg : Γ[n]? = some (.own (d :: ds))) (hnm : n ≠ m) (hm : ∃ d', Γ[m]? = some (.im d') ∨ Γ[m]? = some .none) (hz : Ev K T mo ty Γ (.im (.int 0))) :
    StP K T mo true (tAsg (tBM K "list" rPopAt (tVar n) (tCons ty tNil)) (gName m)) Γ (fun Γ' => Γ' = ((scrub Γ).set n (.own ds)).set m (.im d)) R := fun H0 σ H D E q1 q2 => by
  obtain ⟨a, xs, h1, h2, h3, h4⟩ := E.own hg
  refine ⟨.ref a, h1, Or.inl ⟨rfl, _, .of h3⟩, ?_⟩
  refine hz H0 σ H _ E fun v H1 k p e1 r1 => ?_
  subst p
  cases r1
  have h31 := e1.lst h2 h3
  have h41 := h4.mono e1.tup
  cases h41 with
  | cons hx ht =>
    rename_i x xs'
    refine ⟨a, x :: xs', 0, 0, x, rfl, rfl, h31, by decide, by decide, ?_, rfl, ?_⟩
    · simp [seqIndex?]
    · have t5 : TupLe H1 (upd H1 a (.lst xs')) := tup_upd h31 (fun _ z => nomatch z) (fun _ _ z => nomatch z)
      exact q1 _ _ _ rfl (((E.on e1).putOwn hg h1 h31 ht).setIm m (hx.mono t5)) (e1.tup.trans t5)
end
end Hn
end

section
set_option Elab.async false
set_option linter.all false
set_option maxRecDepth 100000
set_option maxHeartbeats 4000000
/-! the top's statements, the scopes of the defs, what the module holds (printed by gen_m.py) -/
namespace Hn
open PySem PySem.Spec PyProof.Rows L2 NdefX LamX HnQ
def top (i : Nat) : Stmt := PySem.Challenge.pw_heednets_k12_whole_swings_where_scales_a.main.body.getD i (.Pass ⟨0, 0, 0, 0⟩)

abbrev s_is_whole : Stmt := top 7
abbrev nm_is_whole : List Str := ["value"]
theorem sc_is_whole : FnScope nm_is_whole ["value"] (defScope s_is_whole) := ⟨rfl, rfl, rfl, by decide +kernel, rfl, by decide +kernel, by decide +kernel⟩

abbrev s_is_between : Stmt := top 8
abbrev nm_is_between : List Str := ["value", "low", "high"]
theorem sc_is_between : FnScope nm_is_between ["value", "low", "high"] (defScope s_is_between) := ⟨rfl, rfl, rfl, by decide +kernel, rfl, by decide +kernel, by decide +kernel⟩

abbrev s_is_tuple_of : Stmt := top 9
abbrev nm_is_tuple_of : List Str := ["value", "many"]
theorem sc_is_tuple_of : FnScope nm_is_tuple_of ["value", "many"] (defScope s_is_tuple_of) := ⟨rfl, rfl, rfl, by decide +kernel, rfl, by decide +kernel, by decide +kernel⟩

abbrev s_is_ratio : Stmt := top 13
abbrev nm_is_ratio : List Str := ["value"]
theorem sc_is_ratio : FnScope nm_is_ratio ["value"] (defScope s_is_ratio) := ⟨rfl, rfl, rfl, by decide +kernel, rfl, by decide +kernel, by decide +kernel⟩

abbrev s_ratio : Stmt := top 14
abbrev nm_ratio : List Str := ["top", "low", "part"]
theorem sc_ratio : FnScope nm_ratio ["top", "low"] (defScope s_ratio) := ⟨rfl, rfl, rfl, by decide +kernel, rfl, by decide +kernel, by decide +kernel⟩

abbrev s_plus : Stmt := top 15
abbrev nm_plus : List Str := ["one", "two"]
theorem sc_plus : FnScope nm_plus ["one", "two"] (defScope s_plus) := ⟨rfl, rfl, rfl, by decide +kernel, rfl, by decide +kernel, by decide +kernel⟩

abbrev s_minus : Stmt := top 16
abbrev nm_minus : List Str := ["one", "two"]
theorem sc_minus : FnScope nm_minus ["one", "two"] (defScope s_minus) := ⟨rfl, rfl, rfl, by decide +kernel, rfl, by decide +kernel, by decide +kernel⟩

abbrev s_times : Stmt := top 17
abbrev nm_times : List Str := ["one", "two"]
theorem sc_times : FnScope nm_times ["one", "two"] (defScope s_times) := ⟨rfl, rfl, rfl, by decide +kernel, rfl, by decide +kernel, by decide +kernel⟩

abbrev s_over : Stmt := top 18
abbrev nm_over : List Str := ["one", "two"]
theorem sc_over : FnScope nm_over ["one", "two"] (defScope s_over) := ⟨rfl, rfl, rfl, by decide +kernel, rfl, by decide +kernel, by decide +kernel⟩

abbrev s_sign_of : Stmt := top 19
abbrev nm_sign_of : List Str := ["one"]
theorem sc_sign_of : FnScope nm_sign_of ["one"] (defScope s_sign_of) := ⟨rfl, rfl, rfl, by decide +kernel, rfl, by decide +kernel, by decide +kernel⟩

abbrev s_is_less : Stmt := top 20
abbrev nm_is_less : List Str := ["one", "two"]
theorem sc_is_less : FnScope nm_is_less ["one", "two"] (defScope s_is_less) := ⟨rfl, rfl, rfl, by decide +kernel, rfl, by decide +kernel, by decide +kernel⟩

abbrev s_total : Stmt := top 21
abbrev nm_total : List Str := ["fractions", "found", "each"]
theorem sc_total : FnScope nm_total ["fractions"] (defScope s_total) := ⟨rfl, rfl, rfl, by decide +kernel, rfl, by decide +kernel, by decide +kernel⟩

abbrev s_least_of : Stmt := top 22
abbrev nm_least_of : List Str := ["fractions", "found", "each"]
theorem sc_least_of : FnScope nm_least_of ["fractions"] (defScope s_least_of) := ⟨rfl, rfl, rfl, by decide +kernel, rfl, by decide +kernel, by decide +kernel⟩

abbrev s_is_row : Stmt := top 23
abbrev nm_is_row : List Str := ["value", "many", "each"]
theorem sc_is_row : FnScope nm_is_row ["value", "many"] (defScope s_is_row) := ⟨rfl, rfl, rfl, by decide +kernel, rfl, by decide +kernel, by decide +kernel⟩

abbrev s_is_net_by : Stmt := top 26
abbrev nm_is_net_by : List Str := ["value", "many", "cell", "row"]
theorem sc_is_net_by : FnScope nm_is_net_by ["value"] (defScope s_is_net_by) := ⟨rfl, rfl, rfl, by decide +kernel, rfl, by decide +kernel, by decide +kernel⟩

abbrev s_many_cells : Stmt := top 27
abbrev nm_many_cells : List Str := ["net"]
theorem sc_many_cells : FnScope nm_many_cells ["net"] (defScope s_many_cells) := ⟨rfl, rfl, rfl, by decide +kernel, rfl, by decide +kernel, by decide +kernel⟩

abbrev s_is_state_by : Stmt := top 28
abbrev nm_is_state_by : List Str := ["net", "value", "each"]
theorem sc_is_state_by : FnScope nm_is_state_by ["net", "value"] (defScope s_is_state_by) := ⟨rfl, rfl, rfl, by decide +kernel, rfl, by decide +kernel, by decide +kernel⟩

abbrev s_number_by : Stmt := top 29
abbrev nm_number_by : List Str := ["state", "cell", "each"]
theorem sc_number_by : FnScope nm_number_by ["state"] (defScope s_number_by) := ⟨rfl, rfl, rfl, by decide +kernel, rfl, by decide +kernel, by decide +kernel⟩

abbrev s_state_by : Stmt := top 30
abbrev nm_state_by : List Str := ["many", "number", "cell"]
theorem sc_state_by : FnScope nm_state_by ["many", "number"] (defScope s_state_by) := ⟨rfl, rfl, rfl, by decide +kernel, rfl, by decide +kernel, by decide +kernel⟩

abbrev s_all_states : Stmt := top 31
abbrev nm_all_states : List Str := ["net", "number"]
theorem sc_all_states : FnScope nm_all_states ["net"] (defScope s_all_states) := ⟨rfl, rfl, rfl, by decide +kernel, rfl, by decide +kernel, by decide +kernel⟩

abbrev s_heard_by : Stmt := top 32
abbrev nm_heard_by : List Str := ["net", "cell", "state", "weight", "each"]
theorem sc_heard_by : FnScope nm_heard_by ["net", "cell", "state"] (defScope s_heard_by) := ⟨rfl, rfl, rfl, by decide +kernel, rfl, by decide +kernel, by decide +kernel⟩

abbrev s_wanted_by : Stmt := top 33
abbrev nm_wanted_by : List Str := ["net", "state", "cell"]
theorem sc_wanted_by : FnScope nm_wanted_by ["net", "state"] (defScope s_wanted_by) := ⟨rfl, rfl, rfl, by decide +kernel, rfl, by decide +kernel, by decide +kernel⟩

abbrev s_is_pair_against : Stmt := top 35
abbrev nm_is_pair_against : List Str := ["net", "one", "two"]
theorem sc_is_pair_against : FnScope nm_is_pair_against ["net", "one", "two"] (defScope s_is_pair_against) := ⟨rfl, rfl, rfl, by decide +kernel, rfl, by decide +kernel, by decide +kernel⟩

abbrev s_pair_against : Stmt := top 36
abbrev nm_pair_against : List Str := ["net", "cells", "one", "two"]
theorem sc_pair_against : FnScope nm_pair_against ["net"] (defScope s_pair_against) := ⟨rfl, rfl, rfl, by decide +kernel, rfl, by decide +kernel, by decide +kernel⟩

abbrev s_next_cells : Stmt := top 37
abbrev nm_next_cells : List Str := ["net", "cell", "ways", "other"]
theorem sc_next_cells : FnScope nm_next_cells ["net", "cell", "ways"] (defScope s_next_cells) := ⟨rfl, rfl, rfl, by decide +kernel, rfl, by decide +kernel, by decide +kernel⟩

abbrev s_grown_tree : Stmt := top 38
abbrev nm_grown_tree : List Str := ["net", "ways", "root", "todo", "cell", "other"]
theorem sc_grown_tree : FnScope nm_grown_tree ["net"] (defScope s_grown_tree) := ⟨rfl, rfl, rfl, by decide +kernel, rfl, by decide +kernel, by decide +kernel⟩

abbrev s_scale_along : Stmt := top 39
abbrev nm_scale_along : List Str := ["net", "way", "found", "one", "two"]
theorem sc_scale_along : FnScope nm_scale_along ["net", "way"] (defScope s_scale_along) := ⟨rfl, rfl, rfl, by decide +kernel, rfl, by decide +kernel, by decide +kernel⟩

abbrev s_ring_of : Stmt := top 40
abbrev nm_ring_of : List Str := ["one", "two", "here", "at"]
theorem sc_ring_of : FnScope nm_ring_of ["one", "two"] (defScope s_ring_of) := ⟨rfl, rfl, rfl, by decide +kernel, rfl, by decide +kernel, by decide +kernel⟩

abbrev s_scales_or_against_by : Stmt := top 41
abbrev nm_scales_or_against_by : List Str := ["net", "pair", "ways", "found", "one", "two", "way"]
theorem sc_scales_or_against_by : FnScope nm_scales_or_against_by ["net"] (defScope s_scales_or_against_by) := ⟨rfl, rfl, rfl, by decide +kernel, rfl, by decide +kernel, by decide +kernel⟩

abbrev s_check_net : Stmt := top 43
abbrev nm_check_net : List Str := ["value"]
theorem sc_check_net : FnScope nm_check_net ["value"] (defScope s_check_net) := ⟨rfl, rfl, rfl, by decide +kernel, rfl, by decide +kernel, by decide +kernel⟩

abbrev s_check_state : Stmt := top 44
abbrev nm_check_state : List Str := ["net", "value"]
theorem sc_check_state : FnScope nm_check_state ["net", "value"] (defScope s_check_state) := ⟨rfl, rfl, rfl, by decide +kernel, rfl, by decide +kernel, by decide +kernel⟩

abbrev s_check_both : Stmt := top 45
abbrev nm_check_both : List Str := ["net", "state"]
theorem sc_check_both : FnScope nm_check_both ["net", "state"] (defScope s_check_both) := ⟨rfl, rfl, rfl, by decide +kernel, rfl, by decide +kernel, by decide +kernel⟩

abbrev s_scales_for : Stmt := top 46
abbrev nm_scales_for : List Str := ["net", "word", "found"]
theorem sc_scales_for : FnScope nm_scales_for ["net"] (defScope s_scales_for) := ⟨rfl, rfl, rfl, by decide +kernel, rfl, by decide +kernel, by decide +kernel⟩

abbrev s_spare_by : Stmt := top 49
abbrev nm_spare_by : List Str := ["net", "cell", "found", "some", "state", "each"]
theorem sc_spare_by : FnScope nm_spare_by ["net", "cell"] (defScope s_spare_by) := ⟨rfl, rfl, rfl, by decide +kernel, rfl, by decide +kernel, by decide +kernel⟩

abbrev s_step_by : Stmt := top 50
abbrev nm_step_by : List Str := ["net", "cell", "found"]
theorem sc_step_by : FnScope nm_step_by ["net", "cell"] (defScope s_step_by) := ⟨rfl, rfl, rfl, by decide +kernel, rfl, by decide +kernel, by decide +kernel⟩

abbrev s_lifted_by : Stmt := top 51
abbrev nm_lifted_by : List Str := ["net", "cell", "mark"]
theorem sc_lifted_by : FnScope nm_lifted_by ["net"] (defScope s_lifted_by) := ⟨rfl, rfl, rfl, by decide +kernel, rfl, by decide +kernel, by decide +kernel⟩

abbrev s_drop_by : Stmt := top 52
abbrev nm_drop_by : List Str := ["net", "scales", "cell"]
theorem sc_drop_by : FnScope nm_drop_by ["net", "scales"] (defScope s_drop_by) := ⟨rfl, rfl, rfl, by decide +kernel, rfl, by decide +kernel, by decide +kernel⟩

abbrev s_check_states : Stmt := top 54
abbrev nm_check_states : List Str := ["net", "state", "other"]
theorem sc_check_states : FnScope nm_check_states ["net", "state", "other"] (defScope s_check_states) := ⟨rfl, rfl, rfl, by decide +kernel, rfl, by decide +kernel, by decide +kernel⟩

abbrev s_run_by : Stmt := top 56
abbrev nm_run_by : List Str := ["first", "step", "found", "here", "at"]
theorem sc_run_by : FnScope nm_run_by ["first", "step"] (defScope s_run_by) := ⟨rfl, rfl, rfl, by decide +kernel, rfl, by decide +kernel, by decide +kernel⟩

abbrev s_at_once_by : Stmt := top 57
abbrev nm_at_once_by : List Str := ["net", "state"]
theorem sc_at_once_by : FnScope nm_at_once_by ["net", "state"] (defScope s_at_once_by) := ⟨rfl, rfl, rfl, by decide +kernel, rfl, by decide +kernel, by decide +kernel⟩

abbrev s_rings_by : Stmt := top 58
abbrev nm_rings_by : List Str := ["net", "nexts", "found", "number", "tail", "ring", "state", "each"]
theorem sc_rings_by : FnScope nm_rings_by ["net"] (defScope s_rings_by) := ⟨rfl, rfl, rfl, by decide +kernel, rfl, by decide +kernel, by decide +kernel⟩

abbrev s_marks_of : Stmt := top 59
abbrev nm_marks_of : List Str := ["lifted", "scales", "state", "cell", "each"]
theorem sc_marks_of : FnScope nm_marks_of ["lifted", "scales", "state"] (defScope s_marks_of) := ⟨rfl, rfl, rfl, by decide +kernel, rfl, by decide +kernel, by decide +kernel⟩

abbrev s_level_of : Stmt := top 60
abbrev nm_level_of : List Str := ["lifted", "scales", "other", "state", "ties", "cell", "each"]
theorem sc_level_of : FnScope nm_level_of ["lifted", "scales", "other", "state"] (defScope s_level_of) := ⟨rfl, rfl, rfl, by decide +kernel, rfl, by decide +kernel, by decide +kernel⟩

abbrev s_next_level : Stmt := top 61
abbrev nm_next_level : List Str := ["net", "scales", "state"]
theorem sc_next_level : FnScope nm_next_level ["net", "scales", "state"] (defScope s_next_level) := ⟨rfl, rfl, rfl, by decide +kernel, rfl, by decide +kernel, by decide +kernel⟩

abbrev s_most_steps_by : Stmt := top 62
abbrev nm_most_steps_by : List Str := ["net", "scales", "state", "lifted", "least", "found", "each"]
theorem sc_most_steps_by : FnScope nm_most_steps_by ["net", "scales", "state"] (defScope s_most_steps_by) := ⟨rfl, rfl, rfl, by decide +kernel, rfl, by decide +kernel, by decide +kernel⟩

abbrev s_run : Stmt := top 64
abbrev nm_run : List Str := ["net", "state"]
theorem sc_run : FnScope nm_run ["net", "state"] (defScope s_run) := ⟨rfl, rfl, rfl, by decide +kernel, rfl, by decide +kernel, by decide +kernel⟩

abbrev s_rings : Stmt := top 65
abbrev nm_rings : List Str := ["net"]
theorem sc_rings : FnScope nm_rings ["net"] (defScope s_rings) := ⟨rfl, rfl, rfl, by decide +kernel, rfl, by decide +kernel, by decide +kernel⟩

abbrev s_level : Stmt := top 66
abbrev nm_level : List Str := ["net", "other", "state"]
theorem sc_level : FnScope nm_level ["net", "other", "state"] (defScope s_level) := ⟨rfl, rfl, rfl, by decide +kernel, rfl, by decide +kernel, by decide +kernel⟩

abbrev s_most_steps : Stmt := top 67
abbrev nm_most_steps : List Str := ["net", "state"]
theorem sc_most_steps : FnScope nm_most_steps ["net", "state"] (defScope s_most_steps) := ⟨rfl, rfl, rfl, by decide +kernel, rfl, by decide +kernel, by decide +kernel⟩

abbrev s_law_well : Stmt := top 69
abbrev nm_law_well : List Str := ["_law_script", "_law_lap", "_law_mixed", "_law_cell", "_law_own"]
theorem sc_law_well : FnScope nm_law_well ["_law_script", "_law_lap"] (defScope s_law_well) := ⟨rfl, rfl, rfl, by decide +kernel, rfl, by decide +kernel, by decide +kernel⟩

abbrev s_law_draw : Stmt := top 70
abbrev nm_law_draw : List Str := ["_law_well_here", "_law_few", "_law_figure", "_law_mixed"]
theorem sc_law_draw : FnScope nm_law_draw ["_law_well_here", "_law_few"] (defScope s_law_draw) := ⟨rfl, rfl, rfl, by decide +kernel, rfl, by decide +kernel, by decide +kernel⟩

abbrev s_law_one : Stmt := top 71
abbrev nm_law_one : List Str := ["_law_well_here", "_law_some"]
theorem sc_law_one : FnScope nm_law_one ["_law_well_here", "_law_some"] (defScope s_law_one) := ⟨rfl, rfl, rfl, by decide +kernel, rfl, by decide +kernel, by decide +kernel⟩

abbrev s_law_lean : Stmt := top 72
abbrev nm_law_lean : List Str := ["_law_top", "_law_base", "_law_far", "_law_rest"]
theorem sc_law_lean : FnScope nm_law_lean ["_law_top", "_law_base"] (defScope s_law_lean) := ⟨rfl, rfl, rfl, by decide +kernel, rfl, by decide +kernel, by decide +kernel⟩

abbrev s_law_plus : Stmt := top 73
abbrev nm_law_plus : List Str := ["_law_x", "_law_y"]
theorem sc_law_plus : FnScope nm_law_plus ["_law_x", "_law_y"] (defScope s_law_plus) := ⟨rfl, rfl, rfl, by decide +kernel, rfl, by decide +kernel, by decide +kernel⟩

abbrev s_law_minus : Stmt := top 74
abbrev nm_law_minus : List Str := ["_law_x", "_law_y"]
theorem sc_law_minus : FnScope nm_law_minus ["_law_x", "_law_y"] (defScope s_law_minus) := ⟨rfl, rfl, rfl, by decide +kernel, rfl, by decide +kernel, by decide +kernel⟩

abbrev s_law_times : Stmt := top 75
abbrev nm_law_times : List Str := ["_law_x", "_law_y"]
theorem sc_law_times : FnScope nm_law_times ["_law_x", "_law_y"] (defScope s_law_times) := ⟨rfl, rfl, rfl, by decide +kernel, rfl, by decide +kernel, by decide +kernel⟩

abbrev s_law_over : Stmt := top 76
abbrev nm_law_over : List Str := ["_law_x", "_law_y"]
theorem sc_law_over : FnScope nm_law_over ["_law_x", "_law_y"] (defScope s_law_over) := ⟨rfl, rfl, rfl, by decide +kernel, rfl, by decide +kernel, by decide +kernel⟩

abbrev s_law_below : Stmt := top 77
abbrev nm_law_below : List Str := ["_law_x", "_law_y"]
theorem sc_law_below : FnScope nm_law_below ["_law_x", "_law_y"] (defScope s_law_below) := ⟨rfl, rfl, rfl, by decide +kernel, rfl, by decide +kernel, by decide +kernel⟩

abbrev s_law_weight : Stmt := top 78
abbrev nm_law_weight : List Str := ["_law_well_here", "_law_way"]
theorem sc_law_weight : FnScope nm_law_weight ["_law_well_here"] (defScope s_law_weight) := ⟨rfl, rfl, rfl, by decide +kernel, rfl, by decide +kernel, by decide +kernel⟩

abbrev s_law_marks : Stmt := top 79
abbrev nm_law_marks : List Str := ["_law_well_here", "_law_few", "_law_found", "_law_at", "_law_small"]
theorem sc_law_marks : FnScope nm_law_marks ["_law_well_here", "_law_few"] (defScope s_law_marks) := ⟨rfl, rfl, rfl, by decide +kernel, rfl, by decide +kernel, by decide +kernel⟩

abbrev s_law_scaled_net : Stmt := top 80
abbrev nm_law_scaled_net : List Str := ["_law_well_here", "_law_few", "_law_scales", "_law_rows", "_law_is_even", "_law_at", "_law_to", "_law_tie", "_law_row"]
theorem sc_law_scaled_net : FnScope nm_law_scaled_net ["_law_well_here", "_law_few"] (defScope s_law_scaled_net) := ⟨rfl, rfl, rfl, by decide +kernel, rfl, by decide +kernel, by decide +kernel⟩

abbrev s_law_as_state : Stmt := top 81
abbrev nm_law_as_state : List Str := ["_law_number", "_law_few", "_law_at"]
theorem sc_law_as_state : FnScope nm_law_as_state ["_law_number", "_law_few"] (defScope s_law_as_state) := ⟨rfl, rfl, rfl, by decide +kernel, rfl, by decide +kernel, by decide +kernel⟩

abbrev s_law_heard : Stmt := top 82
abbrev nm_law_heard : List Str := ["_law_net", "_law_cell", "_law_number", "_law_found", "_law_at", "_law_weight_here"]
theorem sc_law_heard : FnScope nm_law_heard ["_law_net", "_law_cell", "_law_number"] (defScope s_law_heard) := ⟨rfl, rfl, rfl, by decide +kernel, rfl, by decide +kernel, by decide +kernel⟩

abbrev s_law_wishes : Stmt := top 83
abbrev nm_law_wishes : List Str := ["_law_net", "_law_few", "_law_found", "_law_number", "_law_ons", "_law_at"]
theorem sc_law_wishes : FnScope nm_law_wishes ["_law_net"] (defScope s_law_wishes) := ⟨rfl, rfl, rfl, by decide +kernel, rfl, by decide +kernel, by decide +kernel⟩

abbrev s_law_lifted : Stmt := top 84
abbrev nm_law_lifted : List Str := ["_law_net", "_law_few", "_law_found", "_law_cell", "_law_least", "_law_number", "_law_over_here", "_law_step"]
theorem sc_law_lifted : FnScope nm_law_lifted ["_law_net"] (defScope s_law_lifted) := ⟨rfl, rfl, rfl, by decide +kernel, rfl, by decide +kernel, by decide +kernel⟩

abbrev s_law_drop : Stmt := top 85
abbrev nm_law_drop : List Str := ["_law_scales", "_law_lifted_here", "_law_found", "_law_scale", "_law_pair", "_law_each"]
theorem sc_law_drop : FnScope nm_law_drop ["_law_scales", "_law_lifted_here"] (defScope s_law_drop) := ⟨rfl, rfl, rfl, by decide +kernel, rfl, by decide +kernel, by decide +kernel⟩

abbrev s_law_quotient : Stmt := top 86
abbrev nm_law_quotient : List Str := ["_law_over_here", "_law_drop_here", "_law_part"]
theorem sc_law_quotient : FnScope nm_law_quotient ["_law_over_here", "_law_drop_here"] (defScope s_law_quotient) := ⟨rfl, rfl, rfl, by decide +kernel, rfl, by decide +kernel, by decide +kernel⟩

abbrev s_law_tied : Stmt := top 87
abbrev nm_law_tied : List Str := ["_law_net", "_law_scales", "_law_at", "_law_to", "_law_one_here", "_law_two"]
theorem sc_law_tied : FnScope nm_law_tied ["_law_net", "_law_scales", "_law_at", "_law_to"] (defScope s_law_tied) := ⟨rfl, rfl, rfl, by decide +kernel, rfl, by decide +kernel, by decide +kernel⟩

abbrev s_law_told_scales : Stmt := top 88
abbrev nm_law_told_scales : List Str := ["_law_net", "_law_few", "_law_scales", "_law_start", "_law_line", "_law_turn", "_law_to", "_law_at", "_law_asked"]
theorem sc_law_told_scales : FnScope nm_law_told_scales ["_law_net"] (defScope s_law_told_scales) := ⟨rfl, rfl, rfl, by decide +kernel, rfl, by decide +kernel, by decide +kernel⟩

abbrev s_law_level : Stmt := top 89
abbrev nm_law_level : List Str := ["_law_net", "_law_scales", "_law_lifted_here", "_law_one_here", "_law_two", "_law_found", "_law_cell", "_law_both", "_law_part"]
theorem sc_law_level : FnScope nm_law_level ["_law_net", "_law_scales", "_law_lifted_here", "_law_one_here", "_law_two"] (defScope s_law_level) := ⟨rfl, rfl, rfl, by decide +kernel, rfl, by decide +kernel, by decide +kernel⟩

abbrev s_law_least_level : Stmt := top 90
abbrev nm_law_least_level : List Str := ["_law_net", "_law_scales", "_law_lifted_here", "_law_least", "_law_number", "_law_found", "_law_cell", "_law_gain", "_law_part"]
theorem sc_law_least_level : FnScope nm_law_least_level ["_law_net", "_law_scales", "_law_lifted_here"] (defScope s_law_least_level) := ⟨rfl, rfl, rfl, by decide +kernel, rfl, by decide +kernel, by decide +kernel⟩

abbrev s_law_falls : Stmt := top 91
abbrev nm_law_falls : List Str := ["_law_net", "_law_scales", "_law_lifted_here", "_law_steps", "_law_drop_here", "_law_number", "_law_then", "_law_after", "_law_here"]
theorem sc_law_falls : FnScope nm_law_falls ["_law_net", "_law_scales", "_law_lifted_here", "_law_steps"] (defScope s_law_falls) := ⟨rfl, rfl, rfl, by decide +kernel, rfl, by decide +kernel, by decide +kernel⟩

abbrev s_law_is_level_right : Stmt := top 92
abbrev nm_law_is_level_right : List Str := ["_law_well_here", "_law_net", "_law_scales", "_law_lifted_here", "_law_few", "_law_one_here", "_law_two", "_law_due", "_law_first", "_law_last", "_law_told"]
theorem sc_law_is_level_right : FnScope nm_law_is_level_right ["_law_well_here", "_law_net", "_law_scales", "_law_lifted_here"] (defScope s_law_is_level_right) := ⟨rfl, rfl, rfl, by decide +kernel, rfl, by decide +kernel, by decide +kernel⟩

abbrev s_law_is_bound_right : Stmt := top 93
abbrev nm_law_is_bound_right : List Str := ["_law_well_here", "_law_net", "_law_scales", "_law_lifted_here", "_law_steps", "_law_drop_here", "_law_least", "_law_number", "_law_state", "_law_here", "_law_due", "_law_told"]
theorem sc_law_is_bound_right : FnScope nm_law_is_bound_right ["_law_well_here", "_law_net", "_law_scales", "_law_lifted_here", "_law_steps"] (defScope s_law_is_bound_right) := ⟨rfl, rfl, rfl, by decide +kernel, rfl, by decide +kernel, by decide +kernel⟩

abbrev s_law_right : Stmt := top 94
abbrev nm_law_right : List Str := ["_law_well_here", "_law_net", "_law_scales", "_law_lifted_here", "_law_steps", "_law_turn", "_law_ring"]
theorem sc_law_right : FnScope nm_law_right ["_law_well_here"] (defScope s_law_right) := ⟨rfl, rfl, rfl, by decide +kernel, rfl, by decide +kernel, by decide +kernel⟩

abbrev s_law : Stmt := top 95
abbrev nm_law : List Str := ["_law_script", "_law_lap"]
theorem sc_law : FnScope nm_law ["_law_script"] (defScope s_law) := ⟨rfl, rfl, rfl, by decide +kernel, rfl, by decide +kernel, by decide +kernel⟩

theorem valsSnoc {x : V} {u : Value} (h : L2.RelV x u) : ∀ {vs : List V} {us : List Value}, Vals vs us → Vals (vs ++ [x]) (us ++ [u])
  | _, _, .nil => .cons h .nil
  | _, _, .cons a t => .cons a (valsSnoc h t)
theorem valsRev : ∀ {vs : List V} {us : List Value}, Vals vs us → Vals vs.reverse us.reverse
  | _, _, .nil => .nil
  | _, _, .cons a t => by
    rw [List.reverse_cons, List.reverse_cons]
    exact valsSnoc a (valsRev t)

structure Mods (K : PySem.W.Frag) (mg : Str → Option Value) : Prop where
  n_abs : mg "abs" = none
  n_all : mg "all" = none
  n_bool : mg "bool" = none
  n_divmod : mg "divmod" = none
  n_enumerate : mg "enumerate" = none
  n_int : mg "int" = none
  n_isinstance : mg "isinstance" = none
  n_len : mg "len" = none
  n_max : mg "max" = none
  n_min : mg "min" = none
  n_range : mg "range" = none
  n_repr : mg "repr" = none
  n_sum : mg "sum" = none
  n_tuple : mg "tuple" = none
  n_zip : mg "zip" = none
  n_gcd : mg "gcd" = some (.builtin "math.gcd")
  ZERO : ∃ a, mg "ZERO" = some (.ref a) ∧ ∀ H, Rp K H (.ref a) (fr 0)
  ONE : ∃ a, mg "ONE" = some (.ref a) ∧ ∀ H, Rp K H (.ref a) (fr 1)
  HALF : ∃ a, mg "HALF" = some (.ref a) ∧ ∀ H, Rp K H (.ref a) (fr (1 / 2))
  MOST_CELLS : ∃ t, mg "MOST_CELLS" = some (.int 8 t)
  f_is_whole : Fg K mg "is_whole" (top 7)
  f_is_between : Fg K mg "is_between" (top 8)
  f_is_tuple_of : Fg K mg "is_tuple_of" (top 9)
  f_is_ratio : Fg K mg "is_ratio" (top 13)
  f_ratio : Fg K mg "ratio" (top 14)
  f_plus : Fg K mg "plus" (top 15)
  f_minus : Fg K mg "minus" (top 16)
  f_times : Fg K mg "times" (top 17)
  f_over : Fg K mg "over" (top 18)
  f_sign_of : Fg K mg "sign_of" (top 19)
  f_is_less : Fg K mg "is_less" (top 20)
  f_total : Fg K mg "total" (top 21)
  f_least_of : Fg K mg "least_of" (top 22)
  f_is_row : Fg K mg "is_row" (top 23)
  f_is_net_by : Fg K mg "is_net_by" (top 26)
  f_many_cells : Fg K mg "many_cells" (top 27)
  f_is_state_by : Fg K mg "is_state_by" (top 28)
  f_number_by : Fg K mg "number_by" (top 29)
  f_state_by : Fg K mg "state_by" (top 30)
  f_all_states : Fg K mg "all_states" (top 31)
  f_heard_by : Fg K mg "heard_by" (top 32)
  f_wanted_by : Fg K mg "wanted_by" (top 33)
  f_is_pair_against : Fg K mg "is_pair_against" (top 35)
  f_pair_against : Fg K mg "pair_against" (top 36)
  f_next_cells : Fg K mg "next_cells" (top 37)
  f_grown_tree : Fg K mg "grown_tree" (top 38)
  f_scale_along : Fg K mg "scale_along" (top 39)
  f_ring_of : Fg K mg "ring_of" (top 40)
  f_scales_or_against_by : Fg K mg "scales_or_against_by" (top 41)
  f_check_net : Fg K mg "check_net" (top 43)
  f_check_state : Fg K mg "check_state" (top 44)
  f_check_both : Fg K mg "check_both" (top 45)
  f_scales_for : Fg K mg "scales_for" (top 46)
  f_spare_by : Fg K mg "spare_by" (top 49)
  f_step_by : Fg K mg "step_by" (top 50)
  f_lifted_by : Fg K mg "lifted_by" (top 51)
  f_drop_by : Fg K mg "drop_by" (top 52)
  f_check_states : Fg K mg "check_states" (top 54)
  f_run_by : Fg K mg "run_by" (top 56)
  f_at_once_by : Fg K mg "at_once_by" (top 57)
  f_rings_by : Fg K mg "rings_by" (top 58)
  f_marks_of : Fg K mg "marks_of" (top 59)
  f_level_of : Fg K mg "level_of" (top 60)
  f_next_level : Fg K mg "next_level" (top 61)
  f_most_steps_by : Fg K mg "most_steps_by" (top 62)
  f_run : Fg K mg "run" (top 64)
  f_rings : Fg K mg "rings" (top 65)
  f_level : Fg K mg "level" (top 66)
  f_most_steps : Fg K mg "most_steps" (top 67)
  f_law_well : Fg K mg "_law_well" (top 69)
  f_law_draw : Fg K mg "_law_draw" (top 70)
  f_law_one : Fg K mg "_law_one" (top 71)
  f_law_lean : Fg K mg "_law_lean" (top 72)
  f_law_plus : Fg K mg "_law_plus" (top 73)
  f_law_minus : Fg K mg "_law_minus" (top 74)
  f_law_times : Fg K mg "_law_times" (top 75)
  f_law_over : Fg K mg "_law_over" (top 76)
  f_law_below : Fg K mg "_law_below" (top 77)
  f_law_weight : Fg K mg "_law_weight" (top 78)
  f_law_marks : Fg K mg "_law_marks" (top 79)
  f_law_scaled_net : Fg K mg "_law_scaled_net" (top 80)
  f_law_as_state : Fg K mg "_law_as_state" (top 81)
  f_law_heard : Fg K mg "_law_heard" (top 82)
  f_law_wishes : Fg K mg "_law_wishes" (top 83)
  f_law_lifted : Fg K mg "_law_lifted" (top 84)
  f_law_drop : Fg K mg "_law_drop" (top 85)
  f_law_quotient : Fg K mg "_law_quotient" (top 86)
  f_law_tied : Fg K mg "_law_tied" (top 87)
  f_law_told_scales : Fg K mg "_law_told_scales" (top 88)
  f_law_level : Fg K mg "_law_level" (top 89)
  f_law_least_level : Fg K mg "_law_least_level" (top 90)
  f_law_falls : Fg K mg "_law_falls" (top 91)
  f_law_is_level_right : Fg K mg "_law_is_level_right" (top 92)
  f_law_is_bound_right : Fg K mg "_law_is_bound_right" (top 93)
  f_law_right : Fg K mg "_law_right" (top 94)
end Hn
end

section
set_option Elab.async false
set_option linter.all false
set_option maxRecDepth 100000
set_option maxHeartbeats 0
/-! the head: the facts by names, the run (printed by gen_head.py) -/
namespace Hn
open PySem PySem.Spec PyProof.Rows L2
abbrev HR : PySem.W.OpenRow := PySem.W.OpenLaw.row PySem.Challenge.rw_heednets_k12_whole_swings_where_scales_a
def hnames0 : List Str := ["NetError", "InvalidNet", "InvalidState", "NotScaled", "is_whole", "is_between", "is_tuple_of", "ZERO", "ONE", "is_ratio", "ratio", "plus", "minus", "times", "over", "sign_of", "is_less", "total", "least_of", "is_row", "MOST_CELLS", "is_net_by", "many_cells", "is_state_by", "number_by", "state_by", "all_states", "heard_by", "wanted_by", "is_pair_against"]
def hnames1 : List Str := ["pair_against", "next_cells", "grown_tree", "scale_along", "ring_of", "scales_or_against_by", "check_net", "check_state", "check_both", "scales_for", "HALF", "spare_by", "step_by", "lifted_by", "drop_by", "check_states", "run_by", "at_once_by", "rings_by", "marks_of", "level_of", "next_level", "most_steps_by", "run", "rings", "level", "most_steps", "_law_well", "_law_draw", "_law_one"]
def hnames2 : List Str := ["_law_lean", "_law_plus", "_law_minus", "_law_times", "_law_over", "_law_below", "_law_weight", "_law_marks", "_law_scaled_net", "_law_as_state", "_law_heard", "_law_wishes", "_law_lifted", "_law_drop", "_law_quotient", "_law_tied", "_law_told_scales", "_law_level", "_law_least_level", "_law_falls", "_law_is_level_right", "_law_is_bound_right", "_law_right"]
def hnames : List Str := hnames0 ++ hnames1 ++ hnames2
abbrev dD (x : Str) (st : Stmt) : He.DefD := ⟨(x, none), x, x, defArgs st, defBody st, defScope st, [], []⟩
def hdefs0 : List He.DefD := [dD "is_whole" s_is_whole, dD "is_between" s_is_between, dD "is_tuple_of" s_is_tuple_of, dD "is_ratio" s_is_ratio, dD "ratio" s_ratio, dD "plus" s_plus, dD "minus" s_minus, dD "times" s_times, dD "over" s_over, dD "sign_of" s_sign_of, dD "is_less" s_is_less, dD "total" s_total]
def hdefs1 : List He.DefD := [dD "least_of" s_least_of, dD "is_row" s_is_row, dD "is_net_by" s_is_net_by, dD "many_cells" s_many_cells, dD "is_state_by" s_is_state_by, dD "number_by" s_number_by, dD "state_by" s_state_by, dD "all_states" s_all_states, dD "heard_by" s_heard_by, dD "wanted_by" s_wanted_by, dD "is_pair_against" s_is_pair_against, dD "pair_against" s_pair_against]
def hdefs2 : List He.DefD := [dD "next_cells" s_next_cells, dD "grown_tree" s_grown_tree, dD "scale_along" s_scale_along, dD "ring_of" s_ring_of, dD "scales_or_against_by" s_scales_or_against_by, dD "check_net" s_check_net, dD "check_state" s_check_state, dD "check_both" s_check_both, dD "scales_for" s_scales_for, dD "spare_by" s_spare_by, dD "step_by" s_step_by, dD "lifted_by" s_lifted_by]
def hdefs3 : List He.DefD := [dD "drop_by" s_drop_by, dD "check_states" s_check_states, dD "run_by" s_run_by, dD "at_once_by" s_at_once_by, dD "rings_by" s_rings_by, dD "marks_of" s_marks_of, dD "level_of" s_level_of, dD "next_level" s_next_level, dD "most_steps_by" s_most_steps_by, dD "run" s_run, dD "rings" s_rings, dD "level" s_level]
def hdefs4 : List He.DefD := [dD "most_steps" s_most_steps, dD "_law_well" s_law_well, dD "_law_draw" s_law_draw, dD "_law_one" s_law_one, dD "_law_lean" s_law_lean, dD "_law_plus" s_law_plus, dD "_law_minus" s_law_minus, dD "_law_times" s_law_times, dD "_law_over" s_law_over, dD "_law_below" s_law_below, dD "_law_weight" s_law_weight, dD "_law_marks" s_law_marks]
def hdefs5 : List He.DefD := [dD "_law_scaled_net" s_law_scaled_net, dD "_law_as_state" s_law_as_state, dD "_law_heard" s_law_heard, dD "_law_wishes" s_law_wishes, dD "_law_lifted" s_law_lifted, dD "_law_drop" s_law_drop, dD "_law_quotient" s_law_quotient, dD "_law_tied" s_law_tied, dD "_law_told_scales" s_law_told_scales, dD "_law_level" s_law_level, dD "_law_least_level" s_law_least_level, dD "_law_falls" s_law_falls]
def hdefs6 : List He.DefD := [dD "_law_is_level_right" s_law_is_level_right, dD "_law_is_bound_right" s_law_is_bound_right, dD "_law_right" s_law_right, dD "law" s_law]
def hdefs : List He.DefD := hdefs0 ++ hdefs1 ++ hdefs2 ++ hdefs3 ++ hdefs4 ++ hdefs5 ++ hdefs6
def hfacts0 : List He.Fa := [.glo "is_whole", .glo "is_between", .glo "is_tuple_of", .glo "is_ratio", .glo "ratio", .glo "plus", .glo "minus", .glo "times", .glo "over", .glo "sign_of", .glo "is_less", .glo "total", .glo "least_of", .glo "is_row", .glo "is_net_by", .glo "many_cells", .glo "is_state_by", .glo "number_by", .glo "state_by", .glo "all_states", .glo "heard_by", .glo "wanted_by", .glo "is_pair_against", .glo "pair_against"]
def hfacts1 : List He.Fa := [.glo "next_cells", .glo "grown_tree", .glo "scale_along", .glo "ring_of", .glo "scales_or_against_by", .glo "check_net", .glo "check_state", .glo "check_both", .glo "scales_for", .glo "spare_by", .glo "step_by", .glo "lifted_by", .glo "drop_by", .glo "check_states", .glo "run_by", .glo "at_once_by", .glo "rings_by", .glo "marks_of", .glo "level_of", .glo "next_level", .glo "most_steps_by", .glo "run", .glo "rings", .glo "level"]
def hfacts2 : List He.Fa := [.glo "most_steps", .glo "_law_well", .glo "_law_draw", .glo "_law_one", .glo "_law_lean", .glo "_law_plus", .glo "_law_minus", .glo "_law_times", .glo "_law_over", .glo "_law_below", .glo "_law_weight", .glo "_law_marks", .glo "_law_scaled_net", .glo "_law_as_state", .glo "_law_heard", .glo "_law_wishes", .glo "_law_lifted", .glo "_law_drop", .glo "_law_quotient", .glo "_law_tied", .glo "_law_told_scales", .glo "_law_level", .glo "_law_least_level", .glo "_law_falls"]
def hfacts3 : List He.Fa := [.glo "_law_is_level_right", .glo "_law_is_bound_right", .glo "_law_right", .glo "law", .glo "ZERO", .glo "ONE", .glo "HALF", .free "abs", .free "all", .free "bool", .free "divmod", .free "enumerate", .free "int", .free "isinstance", .free "len", .free "max", .free "min", .free "range", .free "repr", .free "sum", .free "tuple", .free "zip", .int "MOST_CELLS" 8]
def hfacts : List He.Fa := hfacts0 ++ hfacts1 ++ hfacts2 ++ hfacts3
def htabs : List He.Defn := [("at_once_by", none), ("rings_by", none)]
def hex (K : PySem.W.Frag) : Bool := He.tupB K "ZERO" [.int 0, .int 1] && (He.tupB K "ONE" [.int 1, .int 1] && (He.tupB K "HALF" [.int 1, .int 2] && He.eqO (PySem.W.nsIn K mainGlobals "gcd") (some (some (.builtin "math.gcd"))) && !((He.cT K ("at_once_by", none)).2 == (He.cT K ("rings_by", none)).2)))
abbrev hhk : PySem.W.Hook := He.hookX 2 hfacts hdefs [] htabs hex
def hob (s : PySem.W.SharedT) : He.AlX := He.obsX 2 hfacts hdefs [] htabs hex (HandSHeadRun.getT s)
theorem hob_eq (s : PySem.W.SharedT) : hob s = hhk.obs s.abs := He.obsX_eq (HandSHeadRun.getT_eq s)
/-- the run, once for all -/
noncomputable def hwhole (w : World) := HandSHeadRun.wholeF (fun p => HandSHeadRun.stepQ (HandSHeadRun.denQ HandSHeadRun.tabQ) p w) HandSHeadRun.fenceQ 6000 HR.prog
def hK (s : PySem.W.SharedT) : PySem.W.Frag := He.frT (HandSHeadRun.getT s) (He.asD (HandSHeadRun.getT s) 2)
theorem hrun1 (w : World) : (hwhole w).map (fun x => ((hfacts.all fun f => f.ok (hK x.2)), (hdefs.all fun d => d.ok (hK x.2)), (hdefs.map fun d => He.fnW (hK x.2) d.at_), hex (hK x.2) && He.tabsB (HandSHeadRun.getT x.2) htabs (hK x.2))) = some (true, true, hdefs.map He.DefD.val, true) := by
  kernel_rfl
theorem hrun0 (w : World) : (hwhole w).map (fun x => (HandSHeadRun.looksF HR.prog x.1.heap x.2.abs, HandSHeadRun.seenQ (PySem.W.view HR.prog [0, 95]) hnames (importedModules HR.prog.main.body) (fun s => PySem.W.xlAt (PySem.W.view HR.prog [0, 95]) [] s && PySem.W.recOk HR.toRowW.records s) x.2.abs)) = some (true, PySem.W.openGood (PySem.W.view HR.prog [0, 95]) hnames) := by
  kernel_rfl
theorem hrun (w : World) : HandSHeadRun.RunEqI HR (PySem.W.view HR.prog [0, 95]) hhk hob 6000 hnames w := by
  obtain ⟨x, hx, h0⟩ := Option.map_eq_some_iff.mp (hrun0 w)
  have h1 := hrun1 w
  rw [hx] at h1
  obtain ⟨e1, h1⟩ := Prod.mk.inj (Option.some.inj h1)
  obtain ⟨e2, h1⟩ := Prod.mk.inj h1
  obtain ⟨e3, e4⟩ := Prod.mk.inj h1
  have h0 := Prod.mk.inj h0
  unfold HandSHeadRun.RunEqI
  show (hwhole w).map _ = _
  rw [hx]
  show some (_, _, hob x.2) = _
  rw [h0.1, h0.2]
  have a3 : hob x.2 = hhk.val w := by
    show (((((hfacts.all fun f => f.ok (hK x.2)) && hdefs.all fun d => d.ok (hK x.2)), hdefs.map fun d => He.fnW (hK x.2) d.at_), []), hex (hK x.2) && He.tabsB (HandSHeadRun.getT x.2) htabs (hK x.2)) = (((true, hdefs.map He.DefD.val), []), true)
    rw [e1, e2, e3, e4]
    rfl
  rw [a3]
  rfl
end Hn
end

section
set_option Elab.async false
set_option linter.all false
set_option maxRecDepth 100000
set_option maxHeartbeats 400000
/-! a lambda of one parameter handed to a def that calls it -/
namespace Hn
open PySem PySem.Spec PyProof.Rows L2 NdefX LamX HnQ
section
variable {X : Cx} {pins : List (Addr × Obj)} {σ : L2.St} {H : Hp} {s : Shared} {T : List NTab}
/-- a table written, a code object new -/
theorem LeM.table {P c : Addr} {ps more : Array Value} {q : Str} (hP : H P = some (.tbl ps)) (hc : H c = none) (ht : TabsN T H → TabsN T (upd (upd H P (.tbl (ps ++ more))) c (CodeO c q))) : LeM T none H (upd (upd H P (.tbl (ps ++ more))) c (CodeO c q)) := by
  have go : ∀ b o, H b = some o → (∀ z, o ≠ .tbl z) → upd (upd H P (.tbl (ps ++ more))) c (CodeO c q) b = some o := fun b o e n => by
    have n1 : b ≠ c := ne_of_none e hc
    have n2 : b ≠ P := ne_of e hP (fun z => n _ z)
    rw [upd_ne n1, upd_ne n2]
    exact e
  refine ⟨fun b o _ e n => go b o e n, fun b o e => ?_, ht, fun _ => (fun _ z => nomatch z), ⟨fun b xs e => ?_, fun b z e => go b _ e fun ps' y => by unfold CodeO at y; cases y⟩⟩
  · have n1 : b ≠ c := ne_of_none e hc
    rw [upd_ne n1]
    by_cases n2 : b = P
    · exact ⟨_, by rw [n2, upd_same]⟩
    · exact ⟨o, by rw [upd_ne n2]; exact e⟩
  · rcases e with e | ⟨u, e⟩
    · exact .inl (go b _ e fun _ z => nomatch z)
    · exact .inr ⟨u, go b _ e fun _ z => nomatch z⟩
theorem lam_new {c P : Addr} {q : Str} {params : Arguments} {body : Expr} {scope : Scope} {pos : Pos} {E : Value → Shared → Prop} {Q : Value → Shared → Prop} (I : Inv X pins σ H s) (TB : TabB X.base X.mg c P) (hcode : X.env.code = .ref c) (hq : X.env.qual ++ "<lambda>" = q)
    (hm : (P, fun _ _ => q) ∈ T) (hu : ∀ p ∈ T, p.1 = P → p.2 = fun _ _ => q) (hT : TabsN T H) (hdef : defaultsOf params X.env = ([], [])) (hfree : ∀ y ∈ scope.names, y.2 = .free → ∃ c, X.env.cells.lookup y.1 = some c)
    (h : ∀ f c' pm ctv H1 s', Inv X pins σ H1 s' → LeM T none H H1 → TabsN T H1 → s'.heap.get? f = some (PySem.W.kla_obj "<lambda>" q params body scope (cloFrom X.env.cells scope.names []) pm c' ctv) → H1 f = none → f ∉ frs X.stack → H1 c' = some (CodeO c' q) → Q (.ref f) s') :
    wpAny (model X.prog X.w) X.A (eval (.Lambda params body scope pos) X.env) Q E s := by
  subst hq
  have hTP := hT _ hm
  obtain ⟨ps, hP, tri, known⟩ := hTP
  have okP : s.heap.get? P = some { cls := .none, data := .fields ps } := I.hok P _ hP
  have out : ∀ f, s.heap.objs.size ≤ f → f ∉ frs X.stack := fun f hf z => (List.mem_cons.mp (I.stkSub _ z)).elim
    (fun e => Nat.lt_irrefl _ (Nat.lt_of_lt_of_le (e ▸ I.lt) hf)) (fun e => I.nofs hf e)
  apply PySem.W.kla_eval hdef
  cases hc : codeAmong pos ps.toList with
  | some cv =>
    obtain ⟨c', rfl, hco⟩ := known pos cv hc
    apply PySem.W.kla_makeFunctionHit (mg := X.mg) (c := c) (P := P) (ps := ps) (closure_ok hfree) I.ok.glob (I.mod.glob.keeps I.bk) hcode (TB.code.keeps I.bk) okP tri hc (TB.bm.keeps I.bk)
    intro ctv h' tk hx hsz
    exact h h'.objs.size c' _ ctv H _ (I.kept fun b o e => Heap.get?_push_of_some _ (hx b o e)) .refl hT (Heap.get?_push_size _ rfl) (I.hok.fresh hsz) (out _ hsz) hco
  | none =>
    apply PySem.W.kla_makeFunction (mg := X.mg) (c := c) (P := P) (ps := ps) (closure_ok hfree) I.ok.glob (I.mod.glob.keeps I.bk) hcode (TB.code.keeps I.bk) okP tri hc TB.gP (TB.bm.keeps I.bk)
    intro c' ctv h' tk hx hge hlt hrec htb
    obtain ⟨_, oc, vs, t, ec, hoc, hd, hv⟩ := hrec
    cases ec
    have hcN : H c' = none := I.hok.fresh hge
    have hsz : s.heap.objs.size ≤ h'.objs.size := Nat.le_trans hge (Nat.le_of_lt hlt)
    have I1 := inv_table (q := X.env.qual ++ "<lambda>") (t' := tk) (more := #[rawInt pos.line, rawInt pos.col, .ref c']) (h' := h'.push (PySem.W.kla_obj "<lambda>" (X.env.qual ++ "<lambda>") params body scope (cloFrom X.env.cells scope.names []) ((X.mg "__name__").getD .none) c' ctv)) I hP
      (fun b o hb e => Heap.get?_push_of_some _ (hx b o hb e)) (Heap.get?_push_of_some _ htb) hge ⟨oc, vs, t, Heap.get?_push_of_some _ hoc, hd, hv⟩
    have tabs : TabsN T (upd (upd H P (.tbl (ps ++ #[rawInt pos.line, rawInt pos.col, .ref c']))) c' (CodeO c' (X.env.qual ++ "<lambda>"))) := fun p hp => by
      have keepC : ∀ d z, H d = some (CodeO d z) → upd (upd H P (.tbl (ps ++ #[rawInt pos.line, rawInt pos.col, .ref c']))) c' (CodeO c' (X.env.qual ++ "<lambda>")) d = some (CodeO d z) := fun d z e => by
        rw [upd_ne (ne_of_none e hcN), upd_ne (ne_of e hP (codeO_ne ps))]
        exact e
      by_cases hb : p.1 = P
      · have e2 := hu p hp hb
        rw [e2, hb]
        refine ⟨_, by rw [upd_ne (ne_of_none hP hcN), upd_same], ?_, fun p' cv hcv => ?_⟩
        · have e5 : (ps ++ #[rawInt pos.line, rawInt pos.col, .ref c']).toList = ps.toList ++ [rawInt pos.line, rawInt pos.col, .ref c'] := by simp
          rw [e5]
          exact PySem.TriplesOk_snoc _ _ _ _ tri
        · have hcv : codeAmong p' (ps.toList ++ [rawInt pos.line, rawInt pos.col, .ref c']) = some cv := by simpa using hcv
          rcases among_app _ tri hcv with z | z
          · obtain ⟨d, e3, e4⟩ := known p' cv z
            exact ⟨d, e3, keepC d _ e4⟩
          · exact ⟨c', z, upd_same⟩
      · obtain ⟨ps', a1, a2, a3⟩ := hT p hp
        refine ⟨ps', by rw [upd_ne (ne_of_none a1 hcN), upd_ne hb]; exact a1, a2, fun p' cv hcv => ?_⟩
        obtain ⟨d, e3, e4⟩ := a3 p' cv hcv
        exact ⟨d, e3, keepC d _ e4⟩
    refine h h'.objs.size c' _ ctv _ _ I1 (.table hP hcN fun _ => tabs) tabs (Heap.get?_push_size _ rfl) ?_ (out _ hsz) upd_same
    have n2 : h'.objs.size ≠ P := Nat.ne_of_gt (Nat.lt_of_lt_of_le (Heap.lt_size okP) hsz)
    have n1 : h'.objs.size ≠ c' := Nat.ne_of_gt hlt
    rw [upd_ne n1, upd_ne n2]
    exact I.hok.fresh hsz
end

theorem cells_go {cl : List (Str × Addr)} {fr : List Str} {ws : List (Option V)} {h h' : Heap} {H H' : Hp} {fs : List Addr} (C : CellsAt cl fr ws h H) (u : Un fs [] H H' h h') : CellsAt cl fr ws h' H' := by
  have at_ : ∀ y c, cl.lookup y = some c → ∀ v, h.IsCell c v → h'.IsCell c v := fun y c e v ⟨o, ho, hd⟩ => by
    obtain ⟨sl, q⟩ := u.any ho (C.all y c e).1 (by simp)
    exact ⟨_, q, hd⟩
  refine ⟨C.len, fun y c e => ?_, C.inj, fun i y e => ?_⟩
  · obtain ⟨n, v, z⟩ := C.all y c e
    refine ⟨?_, v, at_ y c e v z⟩
    obtain ⟨o, ho, _⟩ := z
    exact u.free c o ho n (by simp)
  · obtain ⟨c, hc, hv⟩ := C.has i y e
    exact ⟨c, hc, fun v ev => let ⟨r, r1, r2⟩ := hv v ev; ⟨r, r1, at_ y c hc _ r2⟩⟩

/-- x(e), x the slot i that holds the lambda at f -/
def tStep (i : Nat) (f c' : Addr) (q : Str) (N' : List Str) (ws : List (Option V)) (tb : TE) (ta : TA) : TE := fun σ H Q => σ[i]? = some (some (.ref f)) ∧ ta σ H fun vs H1 => H1 c' = some (CodeO c' q) ∧ vs.length = 1 ∧ tb (startF N' vs ws) H1 Q
section
variable {P : Program} {w : World} {K : PySem.W.Frag} {mg : Str → Option Value} {base : Heap} {Ng N' fr : List Str} {x a pa q : Str} {stg : Stmt} {g f c' : Addr} {cdg pm ctv : Value} {A : Around} {outer : List Env} {s : Shared} {H : Hp} {params : Arguments} {body : Expr} {scope : Scope}
  {cl : List (Str × Addr)} {ws : List (Option V)} {tb : TE} {ta : TA} {i k : Nat}
theorem pe_step {y : Str} {p p1 p2 : Pos} (hf : s.heap.get? f = some (PySem.W.kla_obj "<lambda>" q params body scope cl pm c' ctv)) (hfn : H f = none) (hfr : f ∉ frs outer) (C : CellsAt cl fr ws s.heap H) (S : NScope N' [pa] fr scope)
    (hb : ∀ (cv ctv : Value) (u : Value), bindArgs (PySem.W.kla_fn "<lambda>" q params body scope cl pm cv ctv) ⟨[u], []⟩ = pure [(pa, u)]) (hr : Room (k + 1) (A.deeper (envOfC x (defScope stg) s.heap.objs.size g cdg))) (gd : A.guards = some [])
    (hbody : ∀ (A' : Around) (outer' : List Env) (s' : Shared) (H' : Hp), Room k (A'.deeper (envF ⟨"<lambda>", q, params, [], scope, cl, c'⟩ f s'.heap.objs.size)) → A'.guards = some [] → PE (ncx CX0 P w K mg base N' ⟨"<lambda>", q, params, [], scope, cl, c'⟩ f A' outer' s' H' E0) body tb)
    (hN : Ng[i]? = some a) (hv : Vis (defScope stg) a) (ha : PA (bodyCx P w K mg base Ng x stg g cdg A outer s H) [.Name y p] ta) (hd : (a == ("__debug__" : Str)) = false := by decide) (hcd : (a == ("__classdict__" : Str)) = false := by decide) :
    PE (bodyCx P w K mg base Ng x stg g cdg A outer s H) (.Call (.Name a p1) [.Name y p] [] p2) (tStep i f c' q N' ws tb ta) := by
  refine ⟨fun pins s1 σ H1 Q I h => ?_⟩
  obtain ⟨hs, ht⟩ := h
  have pvar : PE (bodyCx P w K mg base Ng x stg g cdg A outer s H) (.Name a p1) (tVar i) := pe_var hN hv hd hcd
  have r0 := pvar.run pins s1 σ H1 (fun v H2 => v = .ref f ∧ H2 = H1) I ⟨.ref f, hs, rfl, rfl⟩
  apply wpAny_Call_Name_kw
  refine wpAny_mono r0 (fun u s2 z => ?_) (fun _ _ z => z)
  obtain ⟨v, H2, I2, r2, e1, e2⟩ := z
  subst e1 e2
  obtain rfl : u = Value.ref f := r2
  have obj : ∀ {σ' : L2.St} {H' : Hp} {s' : Shared} {pins'}, Inv (bodyCx P w K mg base Ng x stg g cdg A outer s H) pins' σ' H' s' → s'.heap.get? f = some (PySem.W.kla_obj "<lambda>" q params body scope cl pm c' ctv) := fun J => J.base.keep f _ hf hfn hfr (by show f ∉ ([] : List Addr); simp)
  refine PySem.W.callWith_F (first := []) ⟨_, _, _, _, obj I2⟩ (thn (ha.run p2 pins s2 σ H2 _ I2 ht) fun us s3 ⟨vs, H3, I3, r3, hco, hl, hq⟩ => ⟨⟨_, _, _, _, obj I3⟩, ?_⟩) rfl rfl
  show wpAny _ _ (call (.ref f) us) _ _ _
  obtain ⟨v, u, rfl, rfl, ru⟩ : ∃ v u, vs = [v] ∧ us = [u] ∧ L2.RelV v u := by
    cases r3 with
    | nil => cases hl
    | cons ru rt =>
      cases rt with
      | nil => exact ⟨_, _, rfl, rfl, ru⟩
      | cons _ _ => cases hl
  have un : Un (frs outer) [] H H3 s.heap s3.heap := I3.base
  have lim : s3.heap.NoLimit := I3.nolimit
  obtain ⟨⟨oc, vs', t, hoc, hdc, hvc⟩, _, _⟩ := I3.hok c' _ hco
  have rc : codeAny (model P w) (A.deeper (envOfC x (defScope stg) s.heap.objs.size g cdg)) (.call (.ref f) ⟨[u], []⟩) (CR CX0 (envOfC x (defScope stg) s.heap.objs.size g cdg :: outer) P w H3 s3 Q E0) s3 := by
    refine PySem.W.kla_callFunE hr.depth (obj I3) rfl S.co S.gen rfl ⟨c', oc, vs', t, rfl, hoc, hdc, hvc⟩ ?_
    rw [hb]
    refine wpAny_pure (wpAny_newFunctionEnv S.nocell (fun ⟨n, z⟩ hy => ?_) (fun h₁ hns hsb => ⟨lim.fresh _ hsb, ?_⟩) S.kind)
    · have e : n = pa := by simpa using congrArg Prod.fst (List.mem_singleton.mp hy)
      subst e
      exact S.par n (by simp)
    · have kp : ∀ b o, s3.heap.get? b = some o → h₁.get? b = some o := fun b o e => hsb.extBut b o (Nat.ne_of_lt (Heap.lt_size e)) (Heap.get?_push_of_some _ e)
      have J : Inv (ncx CX0 P w K mg base N' ⟨"<lambda>", q, params, [], scope, cl, c'⟩ f (A.deeper (envOfC x (defScope stg) s.heap.objs.size g cdg)) (envOfC x (defScope stg) s.heap.objs.size g cdg :: outer) s3 H3 E0) [] (startF N' [v] ws) H3 { s3 with heap := h₁, toks := s3.toks + 1 } :=
        inv_startN (ps := [pa]) (us := [u]) S hr.hd I3.env0 rfl (.cons ru .nil) (cells_go C un) hns kp
      refine PySem.W.kla_codeExpr (wpAny_mono ((hbody _ _ s3 H3 (hr.deeper _) gd).run [] _ _ H3 Q J hq) (fun v' s' z => ?_) fun e s' z => z)
      obtain ⟨w', H', J', rv, z⟩ := z
      exact ⟨w', H', J'.os, J'.bare, J'.base, J'.hok, rv, z⟩
  refine wpAny_call (codeAny_mono rc fun r s' z => ?_)
  match r, z with
  | .error _, z => exact (show False from z).elim
  | .ok (.ret u), z => exact I3.after z
  | .ok .next, z => exact (show False from z).elim
  | .ok .brk, z => exact (show False from z).elim
  | .ok .cont, z => exact (show False from z).elim
end

/-- x(e, lambda: ..): trb the reading of x's body, by the lambda's place, its code object, what its cells hold -/
def tLam (T : List NTab) (q : Str) (js : List Nat) (Ng : List Str) (te : TE) (trb : Addr → Addr → List (Option V) → TS) : TE := fun σ H Q => te σ H fun y H1 => TabsN T H1 ∧
  ∀ f c' H2, LeM T none H1 H2 → TabsN T H2 → H2 f = none → H2 c' = some (CodeO c' q) → trb f c' (js.map (slotAt σ)) { nx := fun _ H' => Q .non H', rt := Q } (L2.start Ng [y, .ref f]) H2
section
variable {X : Cx} {T : List NTab} {x b a pa q : Str} {st : Stmt} {Ng fr : List Str} {js : List Nat} {e : Expr} {te : TE} {trb : Addr → Addr → List (Option V) → TS} {c P : Addr} {params : Arguments} {body : Expr} {scope : Scope} {p lpos pos : Pos} {k : Nat}
theorem pe_lam (F0 : Fg X.K X.mg x st) (hg : Gl X x) (Sg : FnScope Ng [b, a] (defScope st))
    (hbn : ∀ (kV doc pm : Value) (an : Option Addr) (cdv ct : Value) (us : List Value), us.length = [b, a].length → bindArgs (PySem.W.fnOf x x (defArgs st) (defBody st) (defScope st) .none kV doc pm an cdv ct) ⟨us, []⟩ = pure ([b, a].zip us))
    (TB : TabB X.base X.mg c P) (hcode : X.env.code = .ref c) (hq : X.env.qual ++ "<lambda>" = q) (hm : (P, fun _ _ => q) ∈ T) (hu : ∀ p ∈ T, p.1 = P → p.2 = fun _ _ => q) (hr : Room (k + 2) X.A) (hdef : defaultsOf params X.env = ([], []))
    (hfree : ∀ y ∈ scope.names, y.2 = .free → X.env.scope.names.lookup y.1 = some .cell ∨ X.env.scope.names.lookup y.1 = some .free) (hfr : ∀ y ∈ fr, (y, NameKind.free) ∈ scope.names) (hjs : js.map (fun j => X.N[j]?) = fr.map some) (he : PE X e te)
    (hG : ∀ (g : Addr) (cdg : Value) (f c' : Addr) (pm ctv : Value) (ws : List (Option V)) (s1 : Shared) (H1 : Hp), s1.heap.get? f = some (PySem.W.kla_obj "<lambda>" q params body scope (cloFrom X.env.cells scope.names []) pm c' ctv) → H1 f = none → f ∉ frs X.stack →
      CellsAt (cloFrom X.env.cells scope.names []) fr ws s1.heap H1 → Room (k + 1) (X.A.deeper (envOfC x (defScope st) s1.heap.objs.size g cdg)) → PSs (bodyCx X.prog X.w X.K X.mg X.base Ng x st g cdg X.A X.stack s1 H1) (defBody st) (trb f c' ws))
    (hdb : (x == ("__debug__" : Str)) = false := by decide) (hs : starEach [e, .Lambda params body scope lpos] X.env = [(false, eval e X.env), (false, eval (.Lambda params body scope lpos) X.env)] := by rfl) :
    PE X (.Call (.Name x p) [e, .Lambda params body scope lpos] [] pos) (tLam T q js Ng te trb) := by
  refine ⟨fun pins s σ H Q I h => ?_⟩
  obtain ⟨g, fd, hmg, F⟩ := F0
  have Bd := F.binds hbn
  have hk := F.kp
  obtain ⟨oc, od, kV, doc, pm0, an, cdv, ct, osl, rfl, look, code⟩ := F.ex
  have hfree' : ∀ y ∈ scope.names, y.2 = .free → ∃ c, X.env.cells.lookup y.1 = some c := fun y hy e => (hfree y hy e).elim (fun z => I.ok.has _ (.inl z)) fun z => I.ok.has _ (.inr z)
  apply wpAny_Call_Name_kw
  apply ld_glob I hg hmg _ hdb
  apply PySem.W.callWith_K (h₀ := X.base) I.ok.mod.kin hk _ hs rfl
  rw [hs]
  refine Calls.spliced_cons (thn (he.run pins s σ H _ I h) fun u s1 ⟨y, H1, I1, ry, hT, q1⟩ => ?_)
  refine Calls.spliced_cons (lam_new I1 TB hcode hq hm hu hT hdef hfree' fun f c' pm ctv H2 s2 I2 le T2 hf hfn hfo hco => ?_)
  refine Calls.spliced_nil ⟨I2.kIn, ?_⟩
  have C := cells_of I2 (Caps.made I2.ok hfree hfr hjs)
  have rc : codeAny (model X.prog X.w) X.A (.call (.ref g) ⟨[u, .ref f], []⟩) (CR CX0 X.stack X.prog X.w H2 s2 Q E0) s2 := by
    have bd := Bd s2 [u, .ref f] I2.kIn rfl
    rw [List.append_nil] at bd
    refine run_ofS (N := Ng) (ps := [b, a]) (us := [u, .ref f]) (vs := [y, .ref f]) look code Sg hr I2.env0 bd (.cons ry (.cons rfl .nil)) rfl fun hr' => ?_
    exact ⟨_, (hG g cdv f c' pm ctv _ s2 H2 hf hfn hfo C hr').nox, q1 f c' H2 le T2 hfn hco⟩
  refine wpAny_call (codeAny_mono rc fun r s' z => ?_)
  cases r with
  | error e => exact (show False from z).elim
  | ok fl =>
    cases fl with
    | ret u => exact I2.after z
    | next => exact (show False from z).elim
    | brk => exact (show False from z).elim
    | cont => exact (show False from z).elim
end
/-! ### the readings -/
section
variable {K : PySem.W.Frag} {T : List NTab} {mo : Option Addr} {Γ : List Slot} {d d1 : D} {N' : List Str} {f c' : Addr} {q : Str} {ws : List (Option V)} {tb : TE} {ta : TA} {i : Nat}
/-- step(e): what the lambda's body gives in the slots of the parameter and the captured name u, of the kind k1 -/
theorem ev_step {u : V} {k1 k : Kd} (hs : Γ[i]? = some (.par (.cl f c' q u k1))) (ha : Av K T mo ta Γ [.im d])
    (hb : ∀ H v (Q : VK), Wl mo H → TabsN T H → Rp K H v d → Kr K mo H H u k1 → (∀ v' H', LeM T mo H H' → Kr K mo H H' v' k → Q v' H') → tb (startF N' [v] [some u]) H Q) : Ev K T mo (tStep i f c' q N' [some u] tb ta) Γ k := fun H0 σ H Q E q => by
  obtain ⟨v, h1, h2, h3⟩ := E.rd hs rfl
  obtain ⟨rfl, _, _⟩ := h2
  refine ⟨h1, ha H0 σ H _ E fun vs H1 ks p e1 r1 => ?_⟩
  subst p
  cases r1 with
  | cons r rs =>
    cases rs
    obtain ⟨v', h1', h2', _⟩ := (E.on e1).rd hs rfl
    refine ⟨h2'.2.1, rfl, hb H1 _ Q (E.on e1).wl (E.on e1).tb r.1 h2'.2.2 fun v' H' e2 r2 => q v' H' _ rfl (e1.trans e2) (r2.back e1)⟩
/-- x(e, lambda ..) where nothing is changed -/
theorem ev_lam {js : List Nat} {Ng : List Str} {te : TE} {trb : Addr → Addr → List (Option V) → TS} {j : Nat} {k1 : Kd} {s1 : Slot} {w : Bool} {P : Kd → Prop} (he : Ev K T none te Γ (.im d)) (hj : Γ[j]? = some s1) (h1 : s1.rd = some k1) (hk1 : k1.arg = true) (hN : 2 ≤ Ng.length)
    (hb : ∀ f c' u, StP K T none w (trb f c' [some u]) ([.im d, .par (.cl f c' q u k1)] ++ List.replicate (Ng.length - 2) .none) (fun _ => False) P) : EvP K T none (tLam T q [j] Ng te trb) Γ P := fun H0 σ H Q E qq =>
  he H0 σ H _ E fun y H1 k p e1 r1 => by
    subst p
    have E1 := E.on e1
    refine ⟨E1.tb, fun f c' H2 e2 tb2 hf hc => ?_⟩
    obtain ⟨u, h2, h3, h4⟩ := E1.rd hj h1
    have ew : [j].map (slotAt σ) = [some u] := by
      show [slotAt σ j] = [some u]
      rw [slotAt_of h2]
    rw [ew]
    have W2 : Wl none H2 := fun _ z => nomatch z
    have r2 : Rp K H2 y d := Rp.mono e2.tup r1
    have h5 : Kr K none H2 H2 u k1 := h3.onA h4 e2
    have A : KrA K none H2 [y, .ref f] [.im d, .cl f c' q u k1] := .cons ⟨r2, .inl rfl⟩ (.cons ⟨⟨rfl, hc, h5⟩, .inl hk1⟩ .nil)
    have E2 := start_ok (N := Ng) A tb2 W2
    refine hb f c' u H2 _ H2 _ E2 (fun _ _ _ z _ _ => z.elim) fun v H' k' z e' r' => ?_
    exact qq v H' k' z ((e1.trans e2).trans e') ((r'.back e2).back e1)
/-- the lambda's body told in its own slots -/
theorem ev_stepE {u : V} {k1 k : Kd} (hs : Γ[i]? = some (.par (.cl f c' q u k1))) (ha : Av K T none ta Γ [.im d]) (hk1 : k1.arg = true) (hN : N'.length = 2) (hb : Ev K T none tb [.im d, k1.pslot] k) : Ev K T none (tStep i f c' q N' [some u] tb ta) Γ k :=
  ev_step hs ha fun H v Q w t hv hu q => by
    have E := start_ok (N := N') (T := T) (vs := [v, u]) (ks := [.im d, k1]) (mo := none) (.cons ⟨hv, .inl rfl⟩ (.cons ⟨hu, .inl hk1⟩ .nil)) t w
    have e1 : L2.start N' [v, u] = startF N' [v] [some u] := by
      unfold L2.start startF
      rw [hN]
      rfl
    have e2 : List.map Kd.pslot [.im d, k1] ++ List.replicate (N'.length - [Kd.im d, k1].length) Slot.none = [.im d, k1.pslot] := by
      rw [hN]
      rfl
    rw [e1, e2] at E
    exact hb H _ H Q E fun v' H' k' z e r => q v' H' e (by rw [z] at r; exact r)
end
end Hn
end

section
set_option Elab.async false
set_option linter.all false
set_option maxRecDepth 100000
set_option maxHeartbeats 1000000
/-! for over a new list, the body changing lists and dicts of one's own -/
namespace Hn
open PySem PySem.Spec PyProof.Rows L2 NdefX LamX HnQ
def noPar (Γ : List Slot) : Prop := ∀ (i : Nat) (k : Kd), Γ[i]? = some (.par k) → False
section
variable {K : PySem.W.Frag} {T : List NTab} {mo : Option Addr} {te : TE} {ts : TS} {Γ : List Slot} {N : List Slot → Prop} {R : Kd → Prop} {ds : List D} {H0 H1 H2 H : Hp} {σ : L2.St} {j : Nat}
theorem EnvOk.rebase (L : LeM T mo H0 H1) (E : EnvOk K T mo H1 H σ Γ) (np : noPar Γ) : EnvOk K T mo H0 H σ Γ := by
  refine ⟨L.trans E.le, E.wl, E.tb, E.len, fun i s hs => ?_, E.dj⟩
  have q := E.sl i s hs
  cases s with
  | none => trivial
  | im d => exact q
  | par k => exact (np i k hs).elim
  | ls ds => exact q
  | own ds => obtain ⟨a, xs, h1, h2, h3⟩ := q; exact ⟨a, xs, h1, L.fresh h2, h3⟩
  | od kvs => obtain ⟨a, xs, h1, h2, h3⟩ := q; exact ⟨a, xs, h1, L.fresh h2, h3⟩
  | rg lo hi => exact q
open Classical in
/-- the heap without what is one's own -/
noncomputable def cutOwn (Γ : List Slot) (σ : L2.St) (H : Hp) : Hp := fun b => if (∃ i, OwnAt Γ σ i b) then none else H b
theorem cut_no {b : Addr} (h : ∃ i, OwnAt Γ σ i b) : cutOwn Γ σ H b = none := by
  unfold cutOwn
  rw [if_pos h]
theorem cut_yes {b : Addr} (h : ¬ ∃ i, OwnAt Γ σ i b) : cutOwn Γ σ H b = H b := by
  unfold cutOwn
  rw [if_neg h]
theorem cut_some {b : Addr} {o : HO} (h : cutOwn Γ σ H b = some o) : H b = some o := by
  by_cases q : ∃ i, OwnAt Γ σ i b
  · rw [cut_no q] at h
    cases h
  · rw [cut_yes q] at h
    exact h
theorem own_kind (E : EnvOk K T mo H0 H σ Γ) {b : Addr} (h : ∃ i, OwnAt Γ σ i b) : H0 b = none ∧ mo ≠ some b ∧ ((∃ xs, H b = some (.lst xs)) ∨ ∃ xs, H b = some (.dK xs)) := by
  obtain ⟨i, ⟨s, h1, h2⟩, h3⟩ := h
  have q := E.sl i s h1
  cases s with
  | own ds =>
    obtain ⟨a, xs, q1, q2, q3, q4, _⟩ := q
    rw [h3] at q1
    cases q1
    exact ⟨q2, q3, .inl ⟨xs, q4⟩⟩
  | od kvs =>
    obtain ⟨a, xs, q1, q2, q3, q4, _⟩ := q
    rw [h3] at q1
    cases q1
    exact ⟨q2, q3, .inr ⟨xs, q4⟩⟩
  | _ => cases h2
theorem not_own (E : EnvOk K T mo H0 H σ Γ) {b : Addr} {o : HO} (h : H b = some o) (n1 : ∀ xs, o ≠ .lst xs) (n2 : ∀ xs, o ≠ .dK xs) : ¬ ∃ i, OwnAt Γ σ i b := fun z => by
  obtain ⟨_, _, ⟨xs, q⟩ | ⟨xs, q⟩⟩ := own_kind E z <;> rw [h] at q <;> cases q
  · exact n1 _ rfl
  · exact n2 _ rfl
theorem cut_tabs (E : EnvOk K T mo H0 H σ Γ) : TabsN T (cutOwn Γ σ H) := fun p hp => by
  obtain ⟨ps, h1, h2, h3⟩ := E.tb p hp
  refine ⟨ps, by rw [cut_yes (not_own E h1 (fun _ z => nomatch z) (fun _ z => nomatch z))]; exact h1, h2, fun pos cv hc => ?_⟩
  obtain ⟨c, e1, e2⟩ := h3 pos cv hc
  exact ⟨c, e1, by rw [cut_yes (not_own E e2 (fun _ z => by unfold CodeO at z; cases z) (fun _ z => by unfold CodeO at z; cases z))]; exact e2⟩
theorem cut_wl (E : EnvOk K T mo H0 H σ Γ) : Wl mo (cutOwn Γ σ H) := fun b e => by
  obtain ⟨x, y, z, h1, h2, h3, h4⟩ := E.wl b e
  refine ⟨x, y, z, h1, h2, h3, ?_⟩
  rw [cut_yes (fun q => (own_kind E q).2.1 e)]
  exact h4
theorem cut_tup (E : EnvOk K T mo H0 H σ Γ) : TupLe H (cutOwn Γ σ H) := by
  refine ⟨fun b xs h => ?_, fun c q h => ?_⟩
  · rcases h with h | ⟨u, h⟩
    · exact .inl (by rw [cut_yes (not_own E h (fun _ z => nomatch z) (fun _ z => nomatch z))]; exact h)
    · exact .inr ⟨u, by rw [cut_yes (not_own E h (fun _ z => nomatch z) (fun _ z => nomatch z))]; exact h⟩
  · rw [cut_yes (not_own E h (fun _ z => by unfold CodeO at z; cases z) (fun _ z => by unfold CodeO at z; cases z))]
    exact h
theorem cut_le (E : EnvOk K T mo H0 H σ Γ) : LeM T mo H0 (cutOwn Γ σ H) := by
  have no : ∀ b o, H0 b = some o → ¬ ∃ i, OwnAt Γ σ i b := fun b o h z => by
    rw [(own_kind E z).1] at h
    cases h
  refine ⟨fun b o n h z => by rw [cut_yes (no b o h)]; exact E.le.keep b o n h z, fun b o h => by rw [cut_yes (no b o h)]; exact E.le.dom b o h, fun _ => cut_tabs E, fun _ => cut_wl E, E.le.tup.trans (cut_tup E)⟩
theorem cut_env (E : EnvOk K T mo H0 H σ Γ) (np : noPar Γ) : EnvOk K T mo (cutOwn Γ σ H) H σ Γ := by
  refine ⟨⟨fun b o _ h _ => cut_some h, fun b o h => ⟨o, cut_some h⟩, fun _ => E.tb, fun _ => E.wl, ⟨fun b xs h => ?_, fun c q h => cut_some h⟩⟩, E.wl, E.tb, E.len, fun i s hs => ?_, E.dj⟩
  · rcases h with h | ⟨u, h⟩
    · exact .inl (cut_some h)
    · exact .inr ⟨u, cut_some h⟩
  have q := E.sl i s hs
  cases s with
  | none => trivial
  | im d => exact q
  | par k => exact (np i k hs).elim
  | ls ds => exact q
  | own ds => obtain ⟨a, xs, h1, h2, h3⟩ := q; exact ⟨a, xs, h1, cut_no ⟨i, ⟨_, hs, rfl⟩, h1⟩, h3⟩
  | od kvs => obtain ⟨a, xs, h1, h2, h3⟩ := q; exact ⟨a, xs, h1, cut_no ⟨i, ⟨_, hs, rfl⟩, h1⟩, h3⟩
  | rg lo hi => exact q
/-- for name in a new list -/
theorem st_forFl (h : Ev K T mo te Γ (.fl ds)) {dd : Nat → D} (hd : ∀ i, i < ds.length → ds[i]? = some (dd i)) (np : noPar Γ) (I : Nat → List Slot → Prop) (h0 : I 0 Γ)
    (hs : ∀ i Γ', i < ds.length → I i Γ' → StP K T mo true ts (Γ'.set j (.im (dd i))) (fun Γ2 => I (i + 1) Γ2 ∧ noPar Γ2) R) (hN : ∀ Γ', I ds.length Γ' → N Γ') : StP K T mo true (tFor (iList K te) (gName j) ts) Γ N R := fun H0 σ H D E q1 q2 =>
  h H0 σ H _ E fun v H1 k p e1 r1 => by
    subst p
    obtain ⟨a, xs, rfl, ha0, ha, hr⟩ := r1
    have E1 := E.on e1
    have am : mo ≠ some a := E.wl.no ha0
    have an : ¬ ∃ i, OwnAt Γ σ i a := fun z => by
      obtain ⟨_, _, ⟨xs, q⟩ | ⟨xs, q⟩⟩ := own_kind E z <;> rw [ha0] at q <;> cases q
    have hlen := hr.length
    have L := cut_le E1
    have E2 := cut_env E1 np
    have aC : cutOwn Γ σ H1 a = some (.lst xs) := by rw [cut_yes an]; exact ha
    refine ⟨a, rfl, ⟨xs, .of ha⟩, ?_⟩
    refine for_it (J := Itl K a) (n := ds.length) (G := fun H' => H' a = some (.lst xs)) (Y := fun i H x H' => (Itl K a).yld i H x H')
      ⟨fun i H' hi hx => ⟨xs, xs[i]'(by omega), .of hx, by rw [List.getElem?_eq_getElem]⟩, fun H' hx => ⟨xs, .of hx, by omega⟩, fun _ _ _ _ _ _ y => y⟩
      (fun i σ' H' => ∃ Γ', I i Γ' ∧ noPar Γ' ∧ EnvOk K T mo (cutOwn Γ σ H1) H' σ' Γ') ⟨Γ, h0, np, E2⟩ (fun i σ' H' _ ⟨_, _, _, s⟩ => s.le.lst am aC) (fun i x σ' H' H'' hi' p y => ?_) (fun σ' H' p => ?_)
    · obtain ⟨Γ', p1, p2, p3⟩ := p
      obtain ⟨e, hx⟩ := y
      subst e
      have hx := hx xs (.of (p3.le.lst am aC))
      have rd : Rp K H'' x (dd i) := by
        obtain ⟨v, g1, g2⟩ := (hr.mono ((cut_tup E1).trans p3.le.tup)).get (hd i hi')
        rw [g1] at hx
        cases hx
        exact g2
      refine hs i Γ' hi' p1 (cutOwn Γ σ H1) _ H'' { D with nx := _, ct := _, bk := _ } (p3.setIm j rd) (fun Γ3 σ3 H3 z E3 s3 => ⟨Γ3, z.1, z.2, E3⟩) fun v H3 k z e3 r3 => ?_
      exact q2 v H3 k z (L.trans e3) (r3.back L)
    · obtain ⟨Γ', p1, p2, p3⟩ := p
      exact q1 Γ' σ' H' (hN Γ' p1) (p3.rebase L p2) ((e1.tup.trans (cut_tup E1)).trans p3.le.tup)
end
end Hn
end

section
set_option Elab.async false
set_option linter.all false
set_option maxHeartbeats 1000000
/-! the net's numbers: what is heard, wished, lifted, levelled; and their sizes -/
namespace HnQ
open Rat
/-- f 0 + .. + f (n - 1) -/
def sm : Nat → (Nat → Rat) → Rat
  | 0, _ => 0
  | n + 1, f => sm n f + f n
theorem sm_congr {n : Nat} {f g : Nat → Rat} (h : ∀ i, i < n → f i = g i) : sm n f = sm n g := by
  induction n with
  | zero => rfl
  | succ n ih =>
    show sm n f + f n = sm n g + g n
    rw [ih fun i hi => h i (by omega), h n (by omega)]
def bit (s i : Nat) : Nat := s / 2 ^ i % 2
/-- the number of a row of wishes -/
def nm : Nat → (Nat → Bool) → Nat
  | 0, _ => 0
  | n + 1, f => nm n f + (if f n then 2 ^ n else 0)
theorem nm_lt (f : Nat → Bool) : ∀ n, nm n f < 2 ^ n
  | 0 => Nat.one_pos
  | n + 1 => by
    have := nm_lt f n
    show nm n f + _ < _
    rw [Nat.pow_succ]
    split <;> omega
theorem nm_congr {f g : Nat → Bool} : ∀ {n}, (∀ i, i < n → f i = g i) → nm n f = nm n g
  | 0, _ => rfl
  | n + 1, h => by
    show nm n f + (if f n then 2 ^ n else 0) = nm n g + (if g n then 2 ^ n else 0)
    rw [nm_congr fun i hi => h i (by omega), h n (by omega)]
theorem bit_nm (f : Nat → Bool) {n i : Nat} (h : i < n) : bit (nm n f) i = if f i then 1 else 0 := by
  induction n with
  | zero => omega
  | succ n ih =>
    show (nm n f + (if f n then 2 ^ n else 0)) / 2 ^ i % 2 = _
    have lt := nm_lt f n
    by_cases e : i = n
    · subst e
      by_cases hf : f i = true
      · rw [if_pos hf, if_pos hf, Nat.add_div_right _ (Nat.two_pow_pos i), Nat.div_eq_of_lt lt]
      · rw [if_neg hf, if_neg hf, Nat.add_zero, Nat.div_eq_of_lt lt]
    · have hi : i < n := by omega
      have := ih hi
      unfold bit at this
      by_cases hf : f n = true
      · rw [if_pos hf]
        have e2 : 2 ^ n = 2 ^ i * (2 * 2 ^ (n - i - 1)) := by
          rw [← Nat.mul_assoc, ← Nat.pow_succ, ← Nat.pow_add]
          congr 1
          omega
        rw [e2, Nat.add_mul_div_left _ _ (Nat.two_pow_pos i), Nat.add_mul_mod_self_left]
        exact this
      · rw [if_neg hf, Nat.add_zero]
        exact this
theorem bit_le (s i : Nat) : bit s i ≤ 1 := by
  unfold bit
  omega
/-- a number below 2 ^ n is that of its bits -/
theorem nm_bit {n s : Nat} (h : s < 2 ^ n) : nm n (fun i => decide (bit s i = 1)) = s := by
  have key : ∀ n, nm n (fun i => decide (bit s i = 1)) = s % 2 ^ n := by
    intro n
    induction n with
    | zero => rw [Nat.pow_zero, Nat.mod_one]; rfl
    | succ n ih =>
      show nm n _ + _ = _
      rw [ih, Nat.pow_succ, Nat.mod_mul]
      have b : bit s n = s / 2 ^ n % 2 := rfl
      have l := bit_le s n
      by_cases hb : bit s n = 1
      · rw [if_pos (by simpa using hb), ← b, hb, Nat.mul_one]
      · have : bit s n = 0 := by omega
        rw [if_neg (by simpa using hb), ← b, this, Nat.mul_zero]
  rw [key, Nat.mod_eq_of_lt h]

structure Net where
  n : Nat
  W : Nat → Nat → Rat
  M : Nat → Rat
variable (N : Net) (c : Nat → Rat)
def heard (i s : Nat) : Rat := sm N.n fun j => if bit s j = 1 then N.W i j else 0
def wants (s i : Nat) : Bool := decide (N.M i < heard N i s)
def next (s : Nat) : Nat := nm N.n (wants N s)
theorem next_lt (s : Nat) : next N s < 2 ^ N.n := nm_lt _ _
/-- the least of a list -/
def leastL : List Rat → Rat
  | [] => 0
  | x :: xs => xs.foldl (fun m e => if e < m then e else m) x
/-- those above the mark -/
def overs (i : Nat) : List Rat := ((List.range (2 ^ N.n)).map fun s => heard N i s - N.M i).filter fun x => decide (0 < x)
def spare (i : Nat) : Option Rat := if overs N i = [] then none else some (leastL (overs N i))
def step (i : Nat) : Rat := match spare N i with
  | none => 1
  | some x => 1 / 2 * x
def lift : Net := { N with M := fun i => N.M i + step N i }
def marks (s : Nat) : Rat := sm N.n fun i => if bit s i = 1 then c i * N.M i else 0
def ties (o s : Nat) : Rat := sm N.n fun i => if bit o i = 1 then c i * heard N i s else 0
/-- of a lifted net -/
def level (o s : Nat) : Rat := marks N c o + marks N c s - ties N c o s
def dropR : Rat := leastL ((List.range N.n).map fun i => c i * step N i)
def leastE : Rat := leastL ((List.range (2 ^ N.n)).map fun s => level (lift N) c (next N s) s)
def nextE (s : Nat) : Rat := level (lift N) c (next N s) s
def most (s : Nat) : Int := ((nextE N c s - leastE N c) / dropR N c).floor

/-! ### sizes -/
structure WOk : Prop where
  pos : 0 < N.n
  le : N.n ≤ 4
  w : ∀ i j, Bd 22 8 (N.W i j)
structure NetOk : Prop extends WOk N where
  m : ∀ i, Bd 20 6 (N.M i)
  d : ∀ i, N.W i i = 0
structure LOk : Prop extends WOk N where
  m : ∀ i, Bd 74 47 (N.M i)
abbrev CBd : Prop := ∀ i, Bd 4 4 (c i)
variable {N c}
theorem Bd.zero : Bd 0 1 0 := ⟨by decide, by decide⟩
theorem Bd.one : Bd 1 1 1 := ⟨by decide, by decide⟩
theorem Bd.half : Bd 1 2 (1 / 2) := by
  have e : (1 / 2 : Rat) = Rat.divInt 1 2 := by decide +kernel
  rw [e]
  exact bd_div 1 2 1 2 (by decide) (by decide) (by decide)
theorem Bd.sm {a b : Nat} {f : Nat → Rat} : ∀ {n}, (∀ i, i < n → Bd a b (f i)) → Bd (a + n * b + n + 1) (n * b + 1) (HnQ.sm n f)
  | 0, _ => Bd.zero.to (by omega) (by omega)
  | n + 1, h => by
    have q := (Bd.sm fun i hi => h i (Nat.lt_succ_of_lt hi)).add (h n (Nat.lt_succ_self n))
    rw [Nat.succ_mul]
    exact q.to (by omega) (by omega)
theorem Bd.sm4 {a b n : Nat} {f : Nat → Rat} (h : ∀ i, i < n → Bd a b (f i)) (hn : n ≤ 4) : Bd (a + 4 * b + 5) (4 * b + 1) (HnQ.sm n f) := by
  have : n * b ≤ 4 * b := Nat.mul_le_mul_right _ hn
  exact (Bd.sm h).to (by omega) (by omega)
theorem Bd.ite {a b : Nat} {p : Prop} [Decidable p] {x : Rat} (h : Bd a b x) (h1 : 1 ≤ b := by decide) : Bd a b (if p then x else 0) := by
  by_cases hp : p
  · rw [if_pos hp]; exact h
  · rw [if_neg hp]; exact Bd.zero.to (by omega) h1
theorem heard_bd (h : WOk N) (i s : Nat) : Bd 59 33 (heard N i s) := Bd.sm4 (fun j _ => (h.w i j).ite) h.le
theorem over_bd (h : NetOk N) (i s : Nat) : Bd 66 39 (heard N i s - N.M i) := ((heard_bd h.toWOk i s).sub (h.m i)).to
theorem leastL_mem : ∀ {l : List Rat}, l ≠ [] → leastL l ∈ l
  | [], h => absurd rfl h
  | x :: xs, _ => by
    have key : ∀ (xs : List Rat) (x : Rat), xs.foldl (fun m e => if e < m then e else m) x ∈ x :: xs := by
      intro xs
      induction xs with
      | nil => intro x; simp
      | cons y ys ih =>
        intro x
        rw [List.foldl_cons]
        have h1 := ih (if y < x then y else x)
        rcases List.mem_cons.mp h1 with e | e
        · rw [e]
          by_cases hyx : y < x
          · rw [if_pos hyx]; simp
          · rw [if_neg hyx]; simp
        · exact List.mem_cons_of_mem _ (List.mem_cons_of_mem _ e)
    exact key xs x
theorem over_of {i : Nat} {x : Rat} (h : x ∈ overs N i) : ∃ s, s < 2 ^ N.n ∧ x = heard N i s - N.M i ∧ 0 < x := by
  unfold overs at h
  rw [List.mem_filter, List.mem_map] at h
  obtain ⟨⟨s, hs, e⟩, hp⟩ := h
  exact ⟨s, List.mem_range.mp hs, e.symm, by simpa using hp⟩
theorem spare_bd (h : NetOk N) {i : Nat} {x : Rat} (e : spare N i = some x) : Bd 66 39 x := by
  unfold spare at e
  split at e
  · cases e
  · rename_i hne
    cases e
    obtain ⟨s, _, e, _⟩ := over_of (leastL_mem hne)
    rw [e]
    exact over_bd h i s
theorem step_bd (h : NetOk N) (i : Nat) : Bd 67 41 (step N i) := by
  unfold step
  split
  · exact Bd.one.to
  · rename_i x e
    exact (Bd.half.mul (spare_bd h e)).to
theorem lift_ok (h : NetOk N) : LOk (lift N) := ⟨⟨h.pos, h.le, h.w⟩, fun i => ((h.m i).add (step_bd h i)).to⟩
theorem sum_bd {a b : Nat} {l : List Rat} (h : ∀ x ∈ l, Bd a b x) : Bd (a + l.length * b + l.length + 1) (l.length * b + 1) (sum l) := by
  have key : ∀ (l : List Rat), (∀ x ∈ l, Bd a b x) → ∀ (k : Nat) (z : Rat), Bd (a + k * b + k + 1) (k * b + 1) z → Bd (a + (k + l.length) * b + (k + l.length) + 1) ((k + l.length) * b + 1) (l.foldl (· + ·) z) := by
    intro l
    induction l with
    | nil => intro _ k z hz; exact hz
    | cons x xs ih =>
      intro h k z hz
      rw [List.foldl_cons, show k + (x :: xs).length = k + 1 + xs.length by rw [List.length_cons]; omega]
      refine ih (fun y hy => h y (List.mem_cons_of_mem _ hy)) (k + 1) _ ?_
      have q := hz.add (h x List.mem_cons_self)
      rw [Nat.succ_mul]
      exact q.to (by omega) (by omega)
  have q := key l h 0 0 (Bd.zero.to (by omega) (by omega))
  rw [Nat.zero_add] at q
  exact q
theorem sum_small {a b : Nat} {l : List Rat} (h : ∀ x ∈ l, Bd a b x) (hl : l.length ≤ 4) (ha : a + 4 * b + 5 ≤ 4000) : Small (sum l) := by
  have : l.length * b ≤ 4 * b := Nat.mul_le_mul_right _ hl
  exact (sum_bd h).to (by omega) (by omega)
theorem marks_bd (h : LOk N) (hc : CBd c) (s : Nat) : Bd 287 205 (marks N c s) := (Bd.sm4 (fun i _ => ((hc i).mul (h.m i)).ite) h.le).to
theorem ties_bd (h : WOk N) (hc : CBd c) (o s : Nat) : Bd 216 149 (ties N c o s) := (Bd.sm4 (fun i _ => ((hc i).mul (heard_bd h i s)).ite) h.le).to
theorem level_bd (h : LOk N) (hc : CBd c) (o s : Nat) : Bd 643 559 (level N c o s) := (((marks_bd h hc o).add (marks_bd h hc s)).sub (ties_bd h.toWOk hc o s)).to
theorem range_ne {n : Nat} (h : 0 < n) {f : Nat → Rat} : (List.range n).map f ≠ [] := by
  intro e
  have := congrArg List.length e
  simp at this
  omega
theorem dropR_mem (h : WOk N) : ∃ i, i < N.n ∧ dropR N c = c i * step N i := by
  have q := leastL_mem (range_ne h.pos (f := fun i => c i * step N i))
  obtain ⟨i, hi, e⟩ := List.mem_map.mp q
  exact ⟨i, List.mem_range.mp hi, e.symm⟩
theorem dropR_bd (h : NetOk N) (hc : CBd c) : Bd 71 45 (dropR N c) := by
  obtain ⟨i, _, e⟩ := dropR_mem (c := c) h.toWOk
  rw [e]
  exact ((hc i).mul (step_bd h i)).to
theorem leastE_bd (h : NetOk N) (hc : CBd c) : Bd 643 559 (leastE N c) := by
  have q := leastL_mem (range_ne (Nat.two_pow_pos N.n) (f := fun s => level (lift N) c (next N s) s))
  obtain ⟨s, _, e⟩ := List.mem_map.mp q
  unfold leastE
  rw [← e]
  exact level_bd (lift_ok h) hc _ _
theorem nextE_bd (h : NetOk N) (hc : CBd c) (s : Nat) : Bd 643 559 (nextE N c s) := level_bd (lift_ok h) hc _ _
theorem step_pos (i : Nat) : 0 < step N i := by
  unfold step
  split
  · decide
  · rename_i x e
    unfold spare at e
    split at e
    · cases e
    · rename_i hne
      cases e
      obtain ⟨_, _, _, hp⟩ := over_of (leastL_mem hne)
      exact Rat.mul_pos (by decide +kernel) hp
end HnQ
end

section
set_option Elab.async false
set_option linter.all false
set_option maxHeartbeats 1000000
/-! the two walks over the net's ties, in plain numbers -/
namespace HnQ
abbrev Wy := List (Nat × List Nat)
def getW : Wy → Nat → Option (List Nat)
  | [], _ => none
  | (j, l) :: r, i => if j = i then some l else getW r i
/-- those not reached that c is tied to -/
def nexts (n : Nat) (adj : Nat → Nat → Bool) (ways : Wy) (c : Nat) : List Nat := (List.range n).filter fun o => (getW ways o).isNone && adj c o
def wayOf (ways : Wy) (c : Nat) : List Nat := (getW ways c).getD []
def growStep (n : Nat) (adj : Nat → Nat → Bool) (ways : Wy) (c : Nat) : Wy := ways ++ (nexts n adj ways c).map fun o => (o, wayOf ways c ++ [o])
def grow (n : Nat) (adj : Nat → Nat → Bool) : Nat → Wy → List Nat → Option Wy
  | _, ways, [] => some ways
  | 0, _, _ :: _ => none
  | f + 1, ways, c :: todo => grow n adj f (growStep n adj ways c) (todo ++ nexts n adj ways c)
def growRoot (n : Nat) (adj : Nat → Nat → Bool) (ways : Wy) (r : Nat) : Option Wy := if (getW ways r).isNone then grow n adj 5 (ways ++ [(r, [r])]) [r] else some ways
/-- behind the first k roots -/
def growTo (n : Nat) (adj : Nat → Nat → Bool) : Nat → Option Wy
  | 0 => some []
  | k + 1 => match growTo n adj k with
    | none => none
    | some ways => growRoot n adj ways k
theorem getW_app {ways more : Wy} {i : Nat} : getW (ways ++ more) i = (getW ways i).or (getW more i) := by
  induction ways with
  | nil => rfl
  | cons p r ih =>
    obtain ⟨j, l⟩ := p
    show (if j = i then some l else getW (r ++ more) i) = (if j = i then some l else getW r i).or _
    by_cases h : j = i
    · rw [if_pos h, if_pos h]; rfl
    · rw [if_neg h, if_neg h]; exact ih
theorem getW_one {o i : Nat} {l : List Nat} : getW [(o, l)] i = if o = i then some l else none := rfl
theorem getW_map {os : List Nat} {g : Nat → List Nat} {i : Nat} (h : i ∉ os) : getW (os.map fun o => (o, g o)) i = none := by
  induction os with
  | nil => rfl
  | cons o os ih =>
    show (if o = i then some (g o) else getW (os.map fun o => (o, g o)) i) = none
    rw [if_neg (fun e => h (by rw [e]; exact List.mem_cons_self))]
    exact ih fun m => h (List.mem_cons_of_mem _ m)
theorem getW_keep {ways more : Wy} {i : Nat} {l : List Nat} (h : getW ways i = some l) : getW (ways ++ more) i = some l := by
  rw [getW_app, h]
  rfl
theorem nexts_mem {n : Nat} {adj : Nat → Nat → Bool} {ways : Wy} {c o : Nat} (h : o ∈ nexts n adj ways c) : o < n ∧ getW ways o = none ∧ adj c o = true := by
  unfold nexts at h
  rw [List.mem_filter, Bool.and_eq_true, Option.isNone_iff_eq_none] at h
  exact ⟨List.mem_range.mp h.1, h.2.1, h.2.2⟩
theorem nexts_nodup {n : Nat} {adj : Nat → Nat → Bool} {ways : Wy} {c : Nat} : (nexts n adj ways c).Nodup := List.nodup_range.filter _
theorem nexts_len {n : Nat} {adj : Nat → Nat → Bool} {ways : Wy} {c : Nat} : (nexts n adj ways c).length ≤ n := by
  have := List.length_filter_le (fun o => (getW ways o).isNone && adj c o) (List.range n)
  rw [List.length_range] at this
  exact this
end HnQ
end

section
set_option Elab.async false
set_option linter.all false
set_option maxHeartbeats 1000000
/-! the law's own walk over the ties -/
namespace HnQ
abbrev Rs := Nat → Option Nat
def putR (rs : Rs) (k r : Nat) : Rs := fun i => if i = k then some r else rs i
def toStep (adj : Nat → Nat → Bool) (a k : Nat) (st : Rs × List Nat) : Option (Rs × List Nat) :=
  if adj a k || adj k a then
    match st.1 a with
    | none => none
    | some r => match st.1 k with
      | none => some (putR st.1 k r, st.2 ++ [k])
      | some r' => if r' = r then some st else none
  else some st
def tTo (adj : Nat → Nat → Bool) (a : Nat) : Nat → Rs × List Nat → Option (Rs × List Nat)
  | 0, st => some st
  | k + 1, st => match tTo adj a k st with
    | none => none
    | some st' => toStep adj a k st'
def tTurn (n : Nat) (adj : Nat → Nat → Bool) : Nat → Rs × List Nat → Option (Rs × List Nat)
  | 0, st => some st
  | k + 1, st => match tTurn n adj k st with
    | none => none
    | some st' => if k < st'.2.length then tTo adj (st'.2.getD k 0) n st' else some st'
def startSt (rs : Rs) (k : Nat) : Rs × List Nat := match rs k with
  | none => (putR rs k k, [k])
  | some _ => (rs, [])
def tStart (n : Nat) (adj : Nat → Nat → Bool) : Nat → Option Rs
  | 0 => some fun _ => none
  | k + 1 => match tStart n adj k with
    | none => none
    | some rs => (tTurn n adj n (startSt rs k)).map (·.1)
theorem tTo_some {adj : Nat → Nat → Bool} {a : Nat} {st out : Rs × List Nat} : ∀ {m k : Nat}, tTo adj a m st = some out → k ≤ m → ∃ w, tTo adj a k st = some w
  | m, k, h, hk => by
    induction m generalizing out with
    | zero => exact ⟨out, by rw [show k = 0 by omega]; exact h⟩
    | succ m ih =>
      by_cases e : k = m + 1
      · exact ⟨out, by rw [e]; exact h⟩
      · unfold tTo at h
        cases q : tTo adj a m st with
        | none => rw [q] at h; cases h
        | some w => exact ih q (by omega)
theorem tTurn_some {n : Nat} {adj : Nat → Nat → Bool} {st out : Rs × List Nat} : ∀ {m k : Nat}, tTurn n adj m st = some out → k ≤ m → ∃ w, tTurn n adj k st = some w
  | m, k, h, hk => by
    induction m generalizing out with
    | zero => exact ⟨out, by rw [show k = 0 by omega]; exact h⟩
    | succ m ih =>
      by_cases e : k = m + 1
      · exact ⟨out, by rw [e]; exact h⟩
      · unfold tTurn at h
        cases q : tTurn n adj m st with
        | none => rw [q] at h; cases h
        | some w => exact ih q (by omega)
theorem tStart_some {n : Nat} {adj : Nat → Nat → Bool} {out : Rs} : ∀ {m k : Nat}, tStart n adj m = some out → k ≤ m → ∃ w, tStart n adj k = some w
  | m, k, h, hk => by
    induction m generalizing out with
    | zero => exact ⟨out, by rw [show k = 0 by omega]; exact h⟩
    | succ m ih =>
      by_cases e : k = m + 1
      · exact ⟨out, by rw [e]; exact h⟩
      · unfold tStart at h
        cases q : tStart n adj m with
        | none => rw [q] at h; cases h
        | some w => exact ih q (by omega)
end HnQ
end

section
set_option Elab.async false
set_option linter.all false
set_option maxHeartbeats 1000000
/-! the plain law: levels fall, rings are short, the bound holds -/
namespace HnQ
open Rat
variable {N : Net} {c : Nat → Rat}
theorem sm_add {f g : Nat → Rat} : ∀ {n}, sm n (fun i => f i + g i) = sm n f + sm n g
  | 0 => (Rat.add_zero 0).symm
  | n + 1 => by
    show sm n _ + (f n + g n) = (sm n f + f n) + (sm n g + g n)
    rw [sm_add]
    grind
theorem sm_sub {f g : Nat → Rat} : ∀ {n}, sm n (fun i => f i - g i) = sm n f - sm n g
  | 0 => by
    show (0 : Rat) = 0 - 0
    grind
  | n + 1 => by
    show sm n _ + (f n - g n) = (sm n f + f n) - (sm n g + g n)
    rw [sm_sub]
    grind
theorem sm_mul {f : Nat → Rat} {a : Rat} : ∀ {n}, sm n (fun i => a * f i) = a * sm n f
  | 0 => by simp [sm]
  | n + 1 => by
    show sm n _ + a * f n = a * (sm n f + f n)
    rw [sm_mul]
    grind
theorem sm_zero : ∀ {n}, sm n (fun _ => 0) = 0
  | 0 => rfl
  | n + 1 => by
    show sm n _ + 0 = 0
    rw [sm_zero, Rat.add_zero]
theorem sm_comm {f : Nat → Nat → Rat} {m : Nat} : ∀ {n}, sm n (fun i => sm m (fun j => f i j)) = sm m (fun j => sm n (fun i => f i j))
  | 0 => by
    show (0 : Rat) = sm m fun j => 0
    rw [sm_zero]
  | n + 1 => by
    show sm n _ + sm m _ = sm m (fun j => sm n (fun i => f i j) + f n j)
    rw [sm_comm, sm_add]
theorem sm_nonneg {f : Nat → Rat} : ∀ {n}, (∀ i, i < n → 0 ≤ f i) → 0 ≤ sm n f
  | 0, _ => Rat.le_refl
  | n + 1, h => by
    have h1 := sm_nonneg (n := n) fun i hi => h i (by omega)
    have h2 := h n (by omega)
    show 0 ≤ sm n f + f n
    grind
theorem sm_ge {f : Nat → Rat} {j : Nat} : ∀ {n}, (∀ i, i < n → 0 ≤ f i) → j < n → f j ≤ sm n f
  | 0, _, hj => by omega
  | n + 1, h, hj => by
    show f j ≤ sm n f + f n
    by_cases e : j = n
    · subst e
      have := sm_nonneg (n := j) fun i hi => h i (by omega)
      grind
    · have := sm_ge (n := n) (fun i hi => h i (by omega)) (j := j) (by omega)
      have h2 := h n (by omega)
      grind
/-! ### the least -/
theorem foldl_le : ∀ (xs : List Rat) (x : Rat), xs.foldl (fun m e => if e < m then e else m) x ≤ x ∧ ∀ y ∈ xs, xs.foldl (fun m e => if e < m then e else m) x ≤ y
  | [], x => ⟨Rat.le_refl, fun y h => by cases h⟩
  | z :: xs, x => by
    rw [List.foldl_cons]
    obtain ⟨h1, h2⟩ := foldl_le xs (if z < x then z else x)
    have h3 : (if z < x then z else x) ≤ x ∧ (if z < x then z else x) ≤ z := by
      split <;> grind
    refine ⟨Rat.le_trans h1 h3.1, fun y hy => ?_⟩
    rcases List.mem_cons.mp hy with rfl | hy
    · exact Rat.le_trans h1 h3.2
    · exact h2 y hy
theorem leastL_le {l : List Rat} {x : Rat} (h : x ∈ l) : leastL l ≤ x := by
  cases l with
  | nil => cases h
  | cons z xs =>
    rcases List.mem_cons.mp h with rfl | h
    · exact (foldl_le xs x).1
    · exact (foldl_le xs z).2 x h
theorem leastL_snoc {l : List Rat} {x : Rat} (h : l ≠ []) : leastL (l ++ [x]) = if x < leastL l then x else leastL l := by
  cases l with
  | nil => exact absurd rfl h
  | cons z xs =>
    show (xs ++ [x]).foldl _ z = _
    rw [List.foldl_append]
    rfl
theorem dropR_le {i : Nat} (h : i < N.n) : dropR N c ≤ c i * step N i := leastL_le (List.mem_map.mpr ⟨i, List.mem_range.mpr h, rfl⟩)
theorem leastE_le {s : Nat} (h : s < 2 ^ N.n) : leastE N c ≤ nextE N c s := leastL_le (List.mem_map.mpr ⟨s, List.mem_range.mpr h, rfl⟩)
/-! ### the law's least over the mark -/
def oversK (N : Net) (i k : Nat) : List Rat := ((List.range k).map fun s => heard N i s - N.M i).filter fun x => decide (0 < x)
def spareK (N : Net) (i k : Nat) : Option Rat := if oversK N i k = [] then none else some (leastL (oversK N i k))
theorem spareK_zero {i : Nat} : spareK N i 0 = none := rfl
theorem spareK_all {i : Nat} : spareK N i (2 ^ N.n) = spare N i := rfl
theorem spareK_succ {i k : Nat} : spareK N i (k + 1) = if 0 < heard N i k - N.M i then (match spareK N i k with | none => some (heard N i k - N.M i) | some m => some (if heard N i k - N.M i < m then heard N i k - N.M i else m)) else spareK N i k := by
  have e : oversK N i (k + 1) = oversK N i k ++ (if 0 < heard N i k - N.M i then [heard N i k - N.M i] else []) := by
    unfold oversK
    rw [List.range_succ, List.map_append, List.filter_append]
    congr 1
    by_cases h : 0 < heard N i k - N.M i
    · simp [h]
    · simp [h]
  by_cases h : 0 < heard N i k - N.M i
  · rw [if_pos h]
    rw [if_pos h] at e
    unfold spareK
    rw [e, if_neg (by simp)]
    by_cases h2 : oversK N i k = []
    · rw [if_pos h2, h2]
      rfl
    · rw [if_neg h2, leastL_snoc h2]
  · rw [if_neg h]
    rw [if_neg h, List.append_nil] at e
    unfold spareK
    rw [e]
/-! ### steps -/
theorem spare_le {i s : Nat} (hs : s < 2 ^ N.n) (h : N.M i < heard N i s) : ∃ x, spare N i = some x ∧ 0 < x ∧ x ≤ heard N i s - N.M i := by
  have hp : 0 < heard N i s - N.M i := by grind
  have hm : heard N i s - N.M i ∈ overs N i := by
    unfold overs
    rw [List.mem_filter]
    exact ⟨List.mem_map.mpr ⟨s, List.mem_range.mpr hs, rfl⟩, by simpa using hp⟩
  have hne : overs N i ≠ [] := List.ne_nil_of_mem hm
  refine ⟨leastL (overs N i), ?_, ?_, leastL_le hm⟩
  · unfold spare
    rw [if_neg hne]
  · obtain ⟨_, _, _, q⟩ := over_of (leastL_mem hne)
    exact q
theorem step_some {i : Nat} {x : Rat} (h : spare N i = some x) : step N i = 1 / 2 * x := by
  unfold step
  rw [h]
theorem gap_yes {i s : Nat} (hs : s < 2 ^ N.n) (h : N.M i < heard N i s) : step N i ≤ heard N i s - (lift N).M i := by
  obtain ⟨x, h1, h2, h3⟩ := spare_le hs h
  have e := step_some h1
  show step N i ≤ heard N i s - (N.M i + step N i)
  rw [e]
  grind
theorem gap_no {i s : Nat} (h : ¬ N.M i < heard N i s) : step N i ≤ (lift N).M i - heard N i s := by
  show step N i ≤ (N.M i + step N i) - heard N i s
  grind
theorem want_lift {i s : Nat} (hs : s < 2 ^ N.n) : ((lift N).M i - heard N i s < 0) ↔ N.M i < heard N i s := by
  have hp := step_pos (N := N) i
  constructor
  · intro h
    apply Classical.byContradiction
    intro h2
    have := gap_no h2
    grind
  · intro h
    have := gap_yes hs h
    grind
theorem heard_lift {i s : Nat} : heard (lift N) i s = heard N i s := rfl
/-! ### levels -/
def Bal (N : Net) (c : Nat → Rat) : Prop := ∀ i j, i < N.n → j < N.n → c i * N.W i j = c j * N.W j i
theorem ties_sym (h : Bal N c) (o s : Nat) : ties N c o s = ties N c s o := by
  have e : ∀ o s, ties N c o s = sm N.n fun i => sm N.n fun j => if bit o i = 1 then (if bit s j = 1 then c i * N.W i j else 0) else 0 := fun o s => by
    unfold ties
    refine sm_congr fun i _ => ?_
    by_cases h1 : bit o i = 1
    · rw [if_pos h1]
      unfold heard
      rw [← sm_mul]
      refine sm_congr fun j _ => ?_
      rw [if_pos h1]
      by_cases h2 : bit s j = 1
      · rw [if_pos h2, if_pos h2]
      · rw [if_neg h2, if_neg h2, Rat.mul_zero]
    · rw [if_neg h1]
      have : sm N.n (fun j => if bit o i = 1 then (if bit s j = 1 then c i * N.W i j else 0) else 0) = sm N.n fun _ => 0 := sm_congr fun j _ => if_neg h1
      rw [this, sm_zero]
  rw [e, e, sm_comm]
  refine sm_congr fun i hi => sm_congr fun j hj => ?_
  rw [h j i hj hi]
  by_cases h1 : bit o j = 1 <;> by_cases h2 : bit s i = 1 <;> simp [h1, h2]
theorem level_sym (h : Bal N c) (o s : Nat) : level N c o s = level N c s o := by
  unfold level
  rw [ties_sym h o s]
  grind
def lawLev (N : Net) (c : Nat → Rat) (o s : Nat) : Rat := sm N.n fun i => c i * (if bit o i = 1 then N.M i * ((bit o i + bit s i : Nat) : Rat) - heard N i s else N.M i * ((bit o i + bit s i : Nat) : Rat))
theorem bit01 (s i : Nat) : bit s i = 0 ∨ bit s i = 1 := by
  have := bit_le s i
  omega
theorem lawLev_eq (o s : Nat) : lawLev N c o s = level N c o s := by
  unfold lawLev level marks ties
  rw [← sm_add, ← sm_sub]
  refine sm_congr fun i _ => ?_
  have e1 : ((0 + 0 : Nat) : Rat) = 0 := by decide
  have e2 : ((0 + 1 : Nat) : Rat) = 1 := by decide
  have e3 : ((1 + 0 : Nat) : Rat) = 1 := by decide
  have e4 : ((1 + 1 : Nat) : Rat) = 2 := by decide
  rcases bit01 o i with h1 | h1 <;> rcases bit01 s i with h2 | h2 <;> rw [h1, h2]
  · rw [if_neg (by decide), if_neg (by decide), e1]; grind
  · rw [if_neg (by decide), if_pos rfl, if_neg (by decide), if_neg (by decide), e2]; grind
  · rw [if_pos rfl, if_pos rfl, if_neg (by decide), if_pos rfl, e3]; grind
  · rw [if_pos rfl, if_pos rfl, if_pos rfl, e4]; grind
/-- N lifted -/
def lowPart (N : Net) (s i : Nat) : Rat := if bit s i = 1 then (if N.M i - heard N i s < 0 then N.M i - heard N i s else 0) + N.M i else (if N.M i - heard N i s < 0 then N.M i - heard N i s else 0)
def lawLow (N : Net) (c : Nat → Rat) (s : Nat) : Rat := sm N.n fun i => c i * lowPart N s i
theorem lawLow_eq {s : Nat} (hs : s < 2 ^ N.n) : lawLow (lift N) c s = nextE N c s := by
  unfold nextE
  rw [← lawLev_eq]
  unfold lawLow lawLev
  refine sm_congr fun i hi => ?_
  have hi : i < N.n := hi
  have hb : bit (next N s) i = if wants N s i then 1 else 0 := bit_nm _ hi
  have hw := want_lift (i := i) hs
  have e1 : ((0 + 0 : Nat) : Rat) = 0 := by decide
  have e2 : ((0 + 1 : Nat) : Rat) = 1 := by decide
  have e3 : ((1 + 0 : Nat) : Rat) = 1 := by decide
  have e4 : ((1 + 1 : Nat) : Rat) = 2 := by decide
  unfold lowPart
  rw [heard_lift]
  by_cases h : N.M i < heard N i s
  · have hb : bit (next N s) i = 1 := by rw [hb, if_pos (by unfold wants; simpa using h)]
    rw [hb, if_pos rfl, if_pos (hw.mpr h)]
    rcases bit01 s i with h2 | h2 <;> rw [h2]
    · rw [if_neg (by decide), e3]; grind
    · rw [if_pos rfl, e4]; grind
  · have hb : bit (next N s) i = 0 := by rw [hb, if_neg (by unfold wants; simpa using h)]
    rw [hb, if_neg (fun z => h (hw.mp z))]
    rcases bit01 s i with h2 | h2 <;> rw [h2]
    · rw [if_neg (by decide), if_neg (by decide), e1]; grind
    · rw [if_pos rfl, if_neg (by decide), e2]; grind
/-! ### the fall -/
theorem bit_ne {n a b : Nat} (ha : a < 2 ^ n) (hb : b < 2 ^ n) (h : a ≠ b) : ∃ i, i < n ∧ bit a i ≠ bit b i := by
  apply Classical.byContradiction
  intro q
  refine h ?_
  rw [← nm_bit ha, ← nm_bit hb]
  refine nm_congr fun i hi => ?_
  have : bit a i = bit b i := Classical.byContradiction fun z => q ⟨i, hi, z⟩
  rw [this]
theorem fall_eq (h : Bal N c) (s s1 s2 : Nat) : level (lift N) c s1 s - level (lift N) c s2 s1 = sm N.n fun i => (if bit s i = 1 then c i * ((lift N).M i - heard N i s1) else 0) - (if bit s2 i = 1 then c i * ((lift N).M i - heard N i s1) else 0) := by
  have hb : Bal (lift N) c := h
  rw [level_sym hb s1 s]
  unfold level marks ties
  rw [sm_sub]
  have e : ∀ x, (sm N.n fun i => if bit x i = 1 then c i * ((lift N).M i - heard N i s1) else 0) = (sm N.n fun i => if bit x i = 1 then c i * (lift N).M i else 0) - sm N.n fun i => if bit x i = 1 then c i * heard N i s1 else 0 := fun x => by
    rw [← sm_sub]
    refine sm_congr fun i _ => ?_
    by_cases hx : bit x i = 1
    · rw [if_pos hx, if_pos hx, if_pos hx]; grind
    · rw [if_neg hx, if_neg hx, if_neg hx]; grind
  rw [e, e]
  show (sm N.n _ + sm N.n _ - sm N.n _) - (sm N.n _ + sm N.n _ - sm N.n _) = _
  simp only [heard_lift]
  grind
theorem term_no {i s1 : Nat} {x : Nat} (hc : 0 < c i) (hx : bit x i = bit (next N s1) i) : (if bit x i = 1 then c i * ((lift N).M i - heard N i s1) else 0) - (if bit (next N s1) i = 1 then c i * ((lift N).M i - heard N i s1) else 0) = 0 := by
  rw [hx]
  grind
theorem term_yes {i s1 : Nat} {x : Nat} (hi : i < N.n) (h1 : s1 < 2 ^ N.n) (hc : 0 < c i) (hx : bit x i ≠ bit (next N s1) i) :
    c i * step N i ≤ (if bit x i = 1 then c i * ((lift N).M i - heard N i s1) else 0) - (if bit (next N s1) i = 1 then c i * ((lift N).M i - heard N i s1) else 0) := by
  have hb : bit (next N s1) i = if wants N s1 i then 1 else 0 := bit_nm _ hi
  by_cases h : N.M i < heard N i s1
  · have hb : bit (next N s1) i = 1 := by rw [hb, if_pos (by unfold wants; simpa using h)]
    have hx : bit x i = 0 := by
      have := bit_le x i
      omega
    rw [hb, hx, if_neg (by decide), if_pos rfl]
    have g := gap_yes h1 h
    have := Rat.mul_le_mul_of_nonneg_left g (Rat.le_of_lt hc)
    grind
  · have hb : bit (next N s1) i = 0 := by rw [hb, if_neg (by unfold wants; simpa using h)]
    have hx : bit x i = 1 := by
      have := bit_le x i
      omega
    rw [hb, hx, if_pos rfl, if_neg (by decide)]
    have g := gap_no h
    have := Rat.mul_le_mul_of_nonneg_left g (Rat.le_of_lt hc)
    grind
theorem term_nn {i s1 : Nat} {x : Nat} (hi : i < N.n) (h1 : s1 < 2 ^ N.n) (hc : 0 < c i) :
    0 ≤ (if bit x i = 1 then c i * ((lift N).M i - heard N i s1) else 0) - (if bit (next N s1) i = 1 then c i * ((lift N).M i - heard N i s1) else 0) := by
  by_cases hx : bit x i = bit (next N s1) i
  · rw [term_no hc hx]
    exact Rat.le_refl
  · have := term_yes hi h1 hc hx
    have h2 : 0 < c i * step N i := Rat.mul_pos hc (step_pos i)
    grind
/-- THE FALL -/
theorem falls (h : Bal N c) (hc : ∀ i, 0 < c i) {s : Nat} (hs : s < 2 ^ N.n) (hne : next N (next N s) ≠ s) : dropR N c ≤ level (lift N) c (next N s) s - level (lift N) c (next N (next N s)) (next N s) := by
  rw [fall_eq h]
  obtain ⟨j, hj, hb⟩ := bit_ne hs (next_lt N (next N s)) (Ne.symm hne)
  have h1 := dropR_le (c := c) hj
  have h2 := term_yes hj (next_lt N s) (hc j) hb
  have h3 := sm_ge (j := j) (n := N.n) (fun i hi => term_nn (x := s) hi (next_lt N s) (hc i)) hj
  exact Rat.le_trans h1 (Rat.le_trans h2 h3)
theorem fall_nn (h : Bal N c) (hc : ∀ i, 0 < c i) {s : Nat} (hs : s < 2 ^ N.n) : level (lift N) c (next N (next N s)) (next N s) ≤ level (lift N) c (next N s) s := by
  have h3 := sm_nonneg (n := N.n) (fun i hi => term_nn (x := s) hi (next_lt N s) (hc i))
  rw [← fall_eq h] at h3
  grind
end HnQ
end

section
set_option Elab.async false
set_option linter.all false
set_option maxHeartbeats 1000000
/-! walks that come back: they are there, their rings are short, their tails bounded -/
namespace HnQ
open Rat
def itr (F : Nat → Nat) : Nat → Nat → Nat
  | 0, x => x
  | k + 1, x => F (itr F k x)
/-- the walk from x is back at its a-th place behind k steps, not before -/
structure Orb (F : Nat → Nat) (x k a : Nat) : Prop where
  lt : a < k
  back : itr F k x = itr F a x
  inj : ∀ i j, i < j → j < k → itr F i x ≠ itr F j x
theorem pigeon : ∀ (B : Nat) (f : Nat → Nat), (∀ i, i ≤ B → f i < B) → ∃ i j, i < j ∧ j ≤ B ∧ f i = f j
  | 0, f, h => absurd (h 0 (Nat.le_refl _)) (Nat.not_lt_zero _)
  | B + 1, f, h => by
    by_cases q : ∃ i, i < B + 1 ∧ f i = f (B + 1)
    · obtain ⟨i, hi, e⟩ := q
      exact ⟨i, B + 1, hi, Nat.le_refl _, e⟩
    · have ne : ∀ i, i ≤ B → f i ≠ f (B + 1) := fun i hi e => q ⟨i, by omega, e⟩
      have hB := h (B + 1) (Nat.le_refl _)
      obtain ⟨i, j, h1, h2, h3⟩ := pigeon B (fun i => if f i > f (B + 1) then f i - 1 else f i) fun i hi => by
        have h1 := h i (by omega)
        have h2 := ne i hi
        show (if f i > f (B + 1) then f i - 1 else f i) < B
        split <;> omega
      refine ⟨i, j, h1, by omega, ?_⟩
      have n1 := ne i (by omega)
      have n2 := ne j h2
      have h3 : (if f i > f (B + 1) then f i - 1 else f i) = (if f j > f (B + 1) then f j - 1 else f j) := h3
      split at h3 <;> split at h3 <;> omega
theorem least_of_ex {p : Nat → Prop} : ∀ {m}, p m → ∃ k, k ≤ m ∧ p k ∧ ∀ j, j < k → ¬ p j
  | 0, h => ⟨0, Nat.le_refl _, h, fun j hj => absurd hj (Nat.not_lt_zero _)⟩
  | m + 1, h => by
    by_cases q : ∃ j, j ≤ m ∧ p j
    · obtain ⟨j, hj, hp⟩ := q
      have key : ∀ n j, j ≤ n → p j → ∃ k, k ≤ j ∧ p k ∧ ∀ i, i < k → ¬ p i := by
        intro n
        induction n with
        | zero => intro j hj hp; exact ⟨0, Nat.zero_le _, by rw [show 0 = j by omega]; exact hp, fun i hi => absurd hi (Nat.not_lt_zero _)⟩
        | succ n ih =>
          intro j hj hp
          by_cases r : ∃ i, i < j ∧ p i
          · obtain ⟨i, hi, hpi⟩ := r
            obtain ⟨k, h1, h2, h3⟩ := ih i (by omega) hpi
            exact ⟨k, by omega, h2, h3⟩
          · exact ⟨j, Nat.le_refl _, hp, fun i hi hpi => r ⟨i, hi, hpi⟩⟩
      obtain ⟨k, h1, h2, h3⟩ := key m j hj hp
      exact ⟨k, by omega, h2, h3⟩
    · exact ⟨m + 1, Nat.le_refl _, h, fun j hj hp => q ⟨j, by omega, hp⟩⟩
theorem itr_lt {F : Nat → Nat} {B x : Nat} (hF : ∀ a, a < B → F a < B) (hx : x < B) : ∀ i, itr F i x < B
  | 0 => hx
  | i + 1 => hF _ (itr_lt hF hx i)
theorem orb_ex {F : Nat → Nat} {B x : Nat} (hF : ∀ a, a < B → F a < B) (hx : x < B) : ∃ k a, k ≤ B ∧ Orb F x k a := by
  obtain ⟨i, j, h1, h2, h3⟩ := pigeon B (fun i => itr F i x) fun i _ => itr_lt hF hx i
  obtain ⟨k, hk, ⟨a, ha, e⟩, hm⟩ := least_of_ex (p := fun k => ∃ a, a < k ∧ itr F k x = itr F a x) (m := j) ⟨i, h1, h3.symm⟩
  exact ⟨k, a, by omega, ha, e, fun i j hij hj z => hm j hj ⟨i, hij, z.symm⟩⟩
variable {N : Net} {c : Nat → Rat}
/-- the level of the walk's step -/
def lev (N : Net) (c : Nat → Rat) (x i : Nat) : Rat := level (lift N) c (itr (next N) (i + 1) x) (itr (next N) i x)
theorem lev_fall (h : Bal N c) (hc : ∀ i, 0 < c i) {x : Nat} (hx : x < 2 ^ N.n) (i : Nat) : lev N c x (i + 1) ≤ lev N c x i := fall_nn h hc (itr_lt (fun a _ => next_lt N a) hx i)
theorem lev_drop (h : Bal N c) (hc : ∀ i, 0 < c i) {x : Nat} (hx : x < 2 ^ N.n) {i : Nat} (hne : itr (next N) (i + 2) x ≠ itr (next N) i x) : dropR N c ≤ lev N c x i - lev N c x (i + 1) := falls h hc (itr_lt (fun a _ => next_lt N a) hx i) hne
theorem lev_le (h : Bal N c) (hc : ∀ i, 0 < c i) {x : Nat} (hx : x < 2 ^ N.n) {i j : Nat} (hij : i ≤ j) : lev N c x j ≤ lev N c x i := by
  induction j with
  | zero => rw [show i = 0 by omega]; exact Rat.le_refl
  | succ j ih =>
    by_cases e : i = j + 1
    · rw [e]; exact Rat.le_refl
    · exact Rat.le_trans (lev_fall h hc hx j) (ih (by omega))
theorem dropR_pos' (h : 0 < N.n) (hc : ∀ i, 0 < c i) : 0 < dropR N c := by
  have q := leastL_mem (range_ne h (f := fun i => c i * step N i))
  obtain ⟨i, _, e⟩ := List.mem_map.mp q
  unfold dropR
  rw [← e]
  exact Rat.mul_pos (hc i) (step_pos i)
/-- RINGS OF AT MOST TWO -/
theorem ring_two (h : Bal N c) (hc : ∀ i, 0 < c i) (hn : 0 < N.n) {x k a : Nat} (hx : x < 2 ^ N.n) (o : Orb (next N) x k a) : k - a ≤ 2 := by
  apply Classical.byContradiction
  intro q
  have hne : itr (next N) (a + 2) x ≠ itr (next N) a x := fun z => o.inj a (a + 2) (by omega) (by omega) z.symm
  have h1 := lev_drop h hc hx hne
  have h2 := lev_le h hc hx (show a + 1 ≤ k by omega)
  have h3 : lev N c x k = lev N c x a := by
    unfold lev
    show level _ _ (next N (itr (next N) k x)) _ = level _ _ (next N (itr (next N) a x)) _
    rw [o.back]
  have h4 := dropR_pos' hn hc
  grind
/-- THE BOUND ON THE TAIL -/
theorem tail_bound (h : Bal N c) (hc : ∀ i, 0 < c i) (hn : 0 < N.n) {x k a : Nat} (hx : x < 2 ^ N.n) (o : Orb (next N) x k a) : (a : Int) ≤ most N c x := by
  have lt := o.lt
  have key : ∀ j, j ≤ a → (j : Rat) * dropR N c ≤ lev N c x 0 - lev N c x j := by
    intro j
    induction j with
    | zero =>
      intro _
      have : ((0 : Nat) : Rat) = 0 := rfl
      rw [this]
      grind
    | succ j ih =>
      intro hj
      have h1 := ih (by omega)
      have hne : itr (next N) (j + 2) x ≠ itr (next N) j x := fun z => by
        by_cases e1 : j + 2 < k
        · exact o.inj j (j + 2) (by omega) e1 z.symm
        · have e2 : j + 2 = k := by omega
          rw [e2, o.back] at z
          exact o.inj j a (by omega) lt z.symm
      have h2 := lev_drop h hc hx hne
      have e : ((j + 1 : Nat) : Rat) = (j : Rat) + 1 := by
        rw [Rat.natCast_add]
        rfl
      rw [e]
      grind
  have h1 := key a (Nat.le_refl _)
  have h2 : leastE N c ≤ lev N c x a := leastE_le (itr_lt (fun a _ => next_lt N a) hx a)
  have h3 : lev N c x 0 = nextE N c x := rfl
  have h4 := dropR_pos' hn hc
  unfold most
  rw [Rat.le_floor_iff]
  have h5 : (a : Rat) * dropR N c ≤ nextE N c x - leastE N c := by grind
  rw [Rat.intCast_natCast, Rat.div_def]
  have h6 := Rat.mul_le_mul_of_nonneg_right h5 (Rat.le_of_lt (Rat.inv_pos.mpr h4))
  have h7 := Rat.mul_inv_cancel (dropR N c) (fun z => by rw [z] at h4; exact absurd h4 (by decide))
  rw [Rat.mul_assoc, h7, Rat.mul_one] at h6
  exact h6
end HnQ
end

section
set_option Elab.async false
set_option linter.all false
set_option maxHeartbeats 1000000
set_option maxRecDepth 100000
/-! both walks find the same roots: all nets of at most four cells -/
namespace HnQ
def adj6 (b0 b1 b2 b3 b4 b5 : Bool) : Nat → Nat → Bool
  | 0, 1 => b0
  | 1, 0 => b0
  | 0, 2 => b1
  | 2, 0 => b1
  | 0, 3 => b2
  | 3, 0 => b2
  | 1, 2 => b3
  | 2, 1 => b3
  | 1, 3 => b4
  | 3, 1 => b4
  | 2, 3 => b5
  | 3, 2 => b5
  | _, _ => false
def check (n : Nat) (adj : Nat → Nat → Bool) : Bool := match growTo n adj n, tStart n adj n with
  | some out, some rs => (List.range n).all fun i => match getW out i, rs i with
    | some w, some r => decide (w.getD (w.length - 1) 0 = i) && decide (w.getD 0 0 = r) && decide (0 < w.length) && (List.range w.length).all (fun k => decide (w.getD k 0 < n)) && (List.range (w.length - 1)).all (fun k => adj (w.getD k 0) (w.getD (k + 1) 0)) && (List.range n).all (fun j => !adj i j || decide (rs j = some r))
    | _, _ => false
  | _, _ => false
theorem check_all : ∀ b0 b1 b2 b3 b4 b5 : Bool, check 1 (adj6 b0 b1 b2 b3 b4 b5) = true ∧ check 2 (adj6 b0 b1 b2 b3 b4 b5) = true ∧ check 3 (adj6 b0 b1 b2 b3 b4 b5) = true ∧ check 4 (adj6 b0 b1 b2 b3 b4 b5) = true := by decide +kernel
structure Walks (n : Nat) (adj : Nat → Nat → Bool) (out : Wy) (rs : Rs) : Prop where
  grown : growTo n adj n = some out
  told : tStart n adj n = some rs
  at_ : ∀ i, i < n → ∃ w r, getW out i = some w ∧ rs i = some r ∧ w.getD (w.length - 1) 0 = i ∧ w.getD 0 0 = r ∧ 0 < w.length ∧ (∀ k, k < w.length → w.getD k 0 < n) ∧ (∀ k, k + 1 < w.length → adj (w.getD k 0) (w.getD (k + 1) 0) = true) ∧ ∀ j, j < n → adj i j = true → rs j = some r
theorem walks_of {n : Nat} {adj : Nat → Nat → Bool} (h : check n adj = true) : ∃ out rs, Walks n adj out rs := by
  unfold check at h
  split at h
  · rename_i out rs h1 h2
    refine ⟨out, rs, h1, h2, fun i hi => ?_⟩
    have h3 := List.all_eq_true.mp h i (List.mem_range.mpr hi)
    split at h3
    · rename_i w r h4 h5
      simp only [Bool.and_eq_true, decide_eq_true_eq, List.all_eq_true, List.mem_range, Bool.or_eq_true, Bool.not_eq_true'] at h3
      obtain ⟨⟨⟨⟨⟨a1, a2⟩, a3⟩, a4⟩, a5⟩, a6⟩ := h3
      refine ⟨w, r, h4, h5, a1, a2, a3, a4, fun k hk => a5 k (by omega), fun j hj ha => ?_⟩
      rcases a6 j hj with z | z
      · rw [z] at ha
        cases ha
      · exact z
    · cases h3
  · cases h
theorem walks_ex {n : Nat} {adj : Nat → Nat → Bool} (h1 : 0 < n) (h4 : n ≤ 4) (hs : ∀ i j, adj i j = adj j i) (hd : ∀ i, adj i i = false) (ho : ∀ i j, 4 ≤ i → adj i j = false) : ∃ out rs, Walks n adj out rs := by
  have e : adj = adj6 (adj 0 1) (adj 0 2) (adj 0 3) (adj 1 2) (adj 1 3) (adj 2 3) := by
    funext i j
    unfold adj6
    split <;> first | rfl | exact hs _ _ | skip
    rename_i g01 g10 g02 g20 g03 g30 g12 g21 g13 g31 g23 g32
    by_cases hi : 4 ≤ i
    · exact ho i j hi
    by_cases hj : 4 ≤ j
    · rw [hs]
      exact ho j i hj
    by_cases hij : i = j
    · rw [hij]
      exact hd j
    exfalso
    have hi : i = 0 ∨ i = 1 ∨ i = 2 ∨ i = 3 := by omega
    have hj : j = 0 ∨ j = 1 ∨ j = 2 ∨ j = 3 := by omega
    rcases hi with rfl | rfl | rfl | rfl <;> rcases hj with rfl | rfl | rfl | rfl <;> first | exact hij rfl | exact g01 rfl rfl | exact g10 rfl rfl | exact g02 rfl rfl | exact g20 rfl rfl | exact g03 rfl rfl | exact g30 rfl rfl | exact g12 rfl rfl | exact g21 rfl rfl | exact g13 rfl rfl | exact g31 rfl rfl | exact g23 rfl rfl | exact g32 rfl rfl
  have c := check_all (adj 0 1) (adj 0 2) (adj 0 3) (adj 1 2) (adj 1 3) (adj 2 3)
  rw [← e] at c
  have hn : n = 1 ∨ n = 2 ∨ n = 3 ∨ n = 4 := by omega
  rcases hn with rfl | rfl | rfl | rfl
  · exact walks_of c.1
  · exact walks_of c.2.1
  · exact walks_of c.2.2.1
  · exact walks_of c.2.2.2
end HnQ
end

section
set_option Elab.async false
set_option linter.all false
set_option maxRecDepth 100000
set_option maxHeartbeats 1000000
/-! a list of lists of one's own, beside the slots: in slot 3; a list of one's own in slot 2 -/
namespace Hn
open PySem PySem.Spec PyProof.Rows L2 NdefX LamX HnQ
abbrev rowR (n : Nat) (f : Nat → Rat) : List D := (List.range n).map fun j => fr (f j)
structure RowsIn (K : PySem.W.Frag) (mo : Option Addr) (n : Nat) (H0 H : Hp) (σ : L2.St) (f : Nat → Nat → Rat) (a : Addr) (as : List Addr) : Prop where
  at_ : σ[3]? = some (some (.ref a))
  a0 : H0 a = none
  am : mo ≠ some a
  ah : H a = some (.lst (as.map V.ref))
  len : as.length = n
  nd : as.Nodup
  na : a ∉ as
  sc : ∀ c, σ[2]? = some (some (.ref c)) → c ≠ a ∧ c ∉ as
  row : ∀ (i : Nat) (b : Addr), as[i]? = some b → H0 b = none ∧ mo ≠ some b ∧ ∃ xs, H b = some (.lst xs) ∧ RpA K H xs (rowR n (f i))
def RowsAt (K : PySem.W.Frag) (mo : Option Addr) (n : Nat) (H0 H : Hp) (σ : L2.St) (f : Nat → Nat → Rat) : Prop := ∃ a as, RowsIn K mo n H0 H σ f a as
section
variable {K : PySem.W.Frag} {T : List NTab} {mo : Option Addr} {n : Nat} {H0 H H' : Hp} {σ σ' : L2.St} {f : Nat → Nat → Rat} {a : Addr} {as : List Addr}
theorem RowsIn.on (r : RowsIn K mo n H0 H σ f a as) (e : LeM T mo H H') : RowsIn K mo n H0 H' σ f a as :=
  ⟨r.at_, r.a0, r.am, e.lst r.am r.ah, r.len, r.nd, r.na, r.sc, fun i b h => by
    obtain ⟨h1, h2, xs, h3, h4⟩ := r.row i b h
    exact ⟨h1, h2, xs, e.lst h2 h3, h4.mono e.tup⟩⟩
theorem RowsIn.st (r : RowsIn K mo n H0 H σ f a as) (h3 : σ'[3]? = σ[3]?) (h2 : σ'[2]? = σ[2]?) : RowsIn K mo n H0 H σ' f a as :=
  ⟨h3.trans r.at_, r.a0, r.am, r.ah, r.len, r.nd, r.na, fun c h => r.sc c (h2.symm.trans h), r.row⟩
theorem RowsAt.on (r : RowsAt K mo n H0 H σ f) (e : LeM T mo H H') : RowsAt K mo n H0 H' σ f := let ⟨a, as, h⟩ := r; ⟨a, as, h.on e⟩
theorem RowsAt.st (r : RowsAt K mo n H0 H σ f) (h3 : σ'[3]? = σ[3]?) (h2 : σ'[2]? = σ[2]?) : RowsAt K mo n H0 H σ' f := let ⟨a, as, h⟩ := r; ⟨a, as, h.st h3 h2⟩
end
/-- what a statement does to the slots and the rows -/
def StW (K : PySem.W.Frag) (T : List NTab) (mo : Option Addr) (n : Nat) (ts : TS) (Γ : List Slot) (f : Nat → Nat → Rat) (N : List Slot → (Nat → Nat → Rat) → Prop) (R : Kd → Prop) : Prop :=
  ∀ H0 σ H (D : Ends), EnvOk K T mo H0 H σ Γ → RowsAt K mo n H0 H σ f → (∀ Γ' f' σ' H', N Γ' f' → EnvOk K T mo H0 H' σ' Γ' → RowsAt K mo n H0 H' σ' f' → TupLe H H' → D.nx σ' H') →
    (∀ v H' k, R k → LeM T mo H0 H' → Kr K mo H0 H' v k → D.rt v H') → ts D σ H
section
variable {K : PySem.W.Frag} {T : List NTab} {mo : Option Addr} {n : Nat} {te ti tj : TE} {ts tu : TS} {Γ : List Slot} {f : Nat → Nat → Rat} {N N1 : List Slot → (Nat → Nat → Rat) → Prop} {R : Kd → Prop} {P : Kd → Prop} {wi : TI} {g : TG} {m j : Nat} {ds : List D}
theorem stw_seq (h1 : StW K T mo n ts Γ f N1 R) (h2 : ∀ Γ1 f1, N1 Γ1 f1 → StW K T mo n tu Γ1 f1 N R) : StW K T mo n (tSeq ts tu) Γ f N R := fun H0 σ H D E W q1 q2 =>
  h1 H0 σ H { D with nx := tu D } E W (fun Γ1 f1 σ1 H1 z E1 W1 t1 => h2 Γ1 f1 z H0 σ1 H1 D E1 W1 (fun Γ2 f2 σ2 H2 z2 E2 W2 t2 => q1 Γ2 f2 σ2 H2 z2 E2 W2 (t1.trans t2)) q2) q2
theorem stw_set {i : Nat} (hi : i ≠ 2 ∧ i ≠ 3) (h : EvP K T mo te Γ P) (hk : ∀ k, P k → ∃ d, k = .im d ∧ N (Γ.set i (.im d)) f) : StW K T mo n (tAsg te (gName i)) Γ f N R := fun H0 σ H D E W q1 q2 =>
  h H0 σ H _ E fun v H1 k p e1 r1 => by
    obtain ⟨d, rfl, hn⟩ := hk k p
    exact q1 _ _ _ _ hn ((E.on e1).setIm i r1) ((W.on e1).st (List.getElem?_set_ne hi.2) (List.getElem?_set_ne hi.1)) e1.tup
/-- for, over a range -/
theorem stw_for (hj : j ≠ 2 ∧ j ≠ 3) (hi : IterP K T mo true wi g [j] Γ m (fun i Γ' => Γ'.set j (.im (.int ((i : Nat) : Int))))) (I : Nat → List Slot → (Nat → Nat → Rat) → Prop) (h0 : I 0 Γ f)
    (hs : ∀ i Γ' f', i < m → I i Γ' f' → StW K T mo n ts (Γ'.set j (.im (.int ((i : Nat) : Int)))) f' (I (i + 1)) R) (hd : ∀ Γ' f', I m Γ' f' → N Γ' f') : StW K T mo n (tFor wi g ts) Γ f N R := fun H0 σ H D E W q1 q2 =>
  hi H0 σ H _ E fun J H1 G e1 hG hgo hstop hy => by
    refine for_it (J := J) (n := m) (G := G) (Y := fun i H x H' => J.yld i H x H') ⟨fun i H' a b => hgo i H' a b, hstop, fun _ _ _ _ _ _ y => y⟩
      (fun i σ' H' => ∃ Γ' f', I i Γ' f' ∧ EnvOk K T mo H0 H' σ' Γ' ∧ RowsAt K mo n H0 H' σ' f' ∧ TupLe H1 H') ⟨Γ, f, h0, E.on e1, W.on e1, .refl⟩ (fun i σ' H' _ ⟨_, _, _, _, _, t⟩ => hG H' t) (fun i x σ' H' H'' hi' p y => ?_) (fun σ' H' p => ?_)
    · obtain ⟨Γ', f', p1, p2, p3, p4⟩ := p
      obtain ⟨ly, hg⟩ := hy i H' x H'' hi' (hG H' p4) y
      refine hg H0 σ' Γ' _ (p2.on ly) fun σ2 E2 hw => ?_
      have ew := hw [j] (fun z hz => hz)
      have at_ : ∀ z, z ≠ j → σ2[z]? = σ'[z]? := fun z hz => by
        have hz2 : z ∉ [j] := by simpa using hz
        have e1 := wipe_out' (σ := σ2) hz2
        have e2 := wipe_out' (σ := σ') hz2
        rw [← e1, ← e2, ew]
      have W2 : RowsAt K mo n H0 H'' σ2 f' := (p3.on ly).st (at_ 3 (fun z => hj.2 z.symm)) (at_ 2 (fun z => hj.1 z.symm))
      have t0 : TupLe H1 H'' := p4.trans ly.tup
      refine (hs i Γ' f' hi' p1) H0 σ2 H'' { D with nx := _, ct := _, bk := _ } E2 W2 (fun Γ3 f3 σ3 H3 z E3 W3 t3 => ⟨Γ3, f3, z, E3, W3, t0.trans t3⟩) q2
    · obtain ⟨Γ', f', p1, p2, p3, p4⟩ := p
      exact q1 Γ' f' σ' H' (hd Γ' f' p1) p2 p3 (e1.tup.trans p4)
/-- the list in slot 2 grows -/
theorem stw_app {d0 : Nat} (hg : Γ[2]? = some (.own ds)) (hl : ds.length ≤ 10000) (h : EvP K T mo te Γ P) (hp : ∀ k, P k → ∃ d, k = .im d ∧ N ((scrub Γ).set 2 (.own (ds ++ [d]))) f) :
    StW K T mo n (tDrop (tBM K "list" rAppend (tVar 2) (tCons te tNil))) Γ f N R := fun H0 σ H D E W q1 q2 => by
  obtain ⟨c, xs, h1, h2, h3, h4⟩ := E.own hg
  refine ⟨.ref c, h1, Or.inl ⟨rfl, _, .of h3⟩, ?_⟩
  refine h H0 σ H _ E fun v H1 k p e1 r1 => ?_
  obtain ⟨d, rfl, hn⟩ := hp k p
  have h31 := e1.lst h2 h3
  have h41 := h4.mono e1.tup
  have tu := tup_upd (u := .lst (xs ++ [v])) h31 (fun _ z => nomatch z) (fun _ _ z => nomatch z)
  refine ⟨c, xs, v, rfl, rfl, h31, by rw [h4.length, sizeLine_eq]; omega, ?_⟩
  obtain ⟨a, as, r⟩ := W
  have r := r.on e1
  obtain ⟨n1, n2⟩ := r.sc c h1
  refine q1 _ _ _ _ hn ((E.on e1).putOwn hg h1 h31 (h41.append (.cons r1 .nil))) ⟨a, as, ⟨r.at_, r.a0, r.am, by rw [upd_ne (fun z => n1 z.symm)]; exact r.ah, r.len, r.nd, r.na, r.sc, fun i b hb => ?_⟩⟩ (e1.tup.trans tu)
  obtain ⟨g1, g2, ys, g3, g4⟩ := r.row i b hb
  have nb : b ≠ c := fun z => n2 (by rw [← z]; exact List.mem_of_getElem? hb)
  exact ⟨g1, g2, ys, by rw [upd_ne nb]; exact g3, g4.mono tu⟩
/-- rows[i][j] = a number -/
theorem stw_row {i j : Nat} {q : Rat} (hi : i < n) (hj : j < n) (hv : Ev K T mo te Γ (.im (fr q))) (ei : Ev K T mo ti Γ (.im (.int ((i : Nat) : Int)))) (ej : Ev K T mo tj Γ (.im (.int ((j : Nat) : Int)))) (hno : Γ.all (fun s => match s with | .ls _ => false | .od _ => false | _ => true) = true) (h3 : Γ[3]? = some .none) (hown : ∀ (z : Nat) s, Γ[z]? = some s → s.isOwn = true → z = 2) :
    StW K T mo n (tAsg te (gSub (tOp (rIxL K) (tVar 3) ti) tj rSetL)) Γ f (fun Γ' f' => Γ' = Γ ∧ f' = fun x y => if x = i ∧ y = j then q else f x y) R := fun H0 σ H D E W q1 q2 =>
  hv H0 σ H _ E fun v H1 k p e1 r1 => by
    subst p
    obtain ⟨a, as, r⟩ := W
    refine ⟨.ref a, r.at_, ?_⟩
    refine ei H0 σ H1 _ (E.on e1) fun y H2 k2 p2 e2 r2 => ?_
    subst p2
    cases r2
    have e12 := e1.trans e2
    have ra := r.on e12
    obtain ⟨b, hb⟩ : ∃ b, as[i]? = some b := ⟨as[i]'(by rw [r.len]; exact hi), List.getElem?_eq_getElem _⟩
    have hat : atI (as.map V.ref) ((i : Nat) : Int) = some (.ref b) := atI_nat (by rw [List.getElem?_map, hb]; rfl)
    refine ⟨a, _, (i : Int), .ref b, rfl, rfl, .of ra.ah, hat, ?_⟩
    refine ej H0 σ H2 _ (E.on e12) fun z H3 k3 p3 e3 r3 => ?_
    subst p3
    cases r3
    have e13 := e12.trans e3
    have rb := r.on e13
    have E3 := E.on e13
    obtain ⟨g1, g2, xs, g3, g4⟩ := rb.row i b hb
    have hlen : xs.length = n := by rw [g4.length, List.length_map, List.length_range]
    have tu := tup_upd (u := .lst (xs.set j v)) g3 (fun _ z => nomatch z) (fun _ _ z => nomatch z)
    refine ⟨b, xs, (j : Int), j, rfl, rfl, g3, ixN_ofNat (by rw [hlen]; exact hj), ?_⟩
    have ba : b ≠ a := fun z => r.na (by rw [← z]; exact List.mem_of_getElem? hb)
    have vr : Rp K H3 v (fr q) := (r1.mono e2.tup).mono e3.tup
    have env : EnvOk K T mo H0 (upd H3 b (.lst (xs.set j v))) σ Γ := by
      refine ⟨E3.le.mut g1 g2 g3, fun c q => ?_, tabs_upd g3 E3.tb, E3.len, fun z s hz => ?_, E3.dj⟩
      · obtain ⟨x1, x2, x3, y1, y2, y3, y4⟩ := E3.wl c q
        exact ⟨x1, x2, x3, y1, y2, y3, by rw [upd_ne (fun e => g2 (by rw [← e]; exact q))]; exact y4⟩
      · have q := E3.sl z s hz
        cases s with
        | none => trivial
        | im d => obtain ⟨v, q1, q2⟩ := q; exact ⟨v, q1, q2.mono tu⟩
        | par k => exact q
        | ls ds => exact absurd (List.all_eq_true.mp hno _ (List.mem_of_getElem? hz)) (by simp)
        | own ds =>
          have hz2 := hown z _ hz rfl
          subst hz2
          obtain ⟨c, us, q1, q2, q3, q4, q5⟩ := q
          have nc : c ≠ b := fun e => (r.sc c q1).2 (by rw [e]; exact List.mem_of_getElem? hb)
          exact ⟨c, us, q1, q2, q3, by rw [upd_ne nc]; exact q4, q5.mono tu⟩
        | od kvs => exact absurd (List.all_eq_true.mp hno _ (List.mem_of_getElem? hz)) (by simp)
        | rg lo hi' =>
          obtain ⟨v, q1, c, q2, q3, q4⟩ := q
          have nc : c ≠ b := ne_of q4 g3 (fun z => nomatch z)
          exact ⟨v, q1, c, q2, q3, by rw [upd_ne nc]; exact q4⟩
    refine q1 _ _ _ _ ⟨rfl, rfl⟩ env ⟨a, as, ⟨rb.at_, rb.a0, rb.am, by rw [upd_ne (fun z => ba z.symm)]; exact rb.ah, rb.len, rb.nd, rb.na, rb.sc, fun x c hc => ?_⟩⟩ (e13.tup.trans tu)
    obtain ⟨w1, w2, ys, w3, w4⟩ := rb.row x c hc
    by_cases hx : x = i
    · subst hx
      rw [hb] at hc
      cases hc
      rw [g3] at w3
      cases w3
      refine ⟨g1, g2, _, upd_same, ?_⟩
      have q4 := (g4.set j vr).mono tu
      have ew : (rowR n (f x)).set j (fr q) = rowR n fun y => if x = x ∧ y = j then q else f x y := by
        refine List.ext_getElem (by simp) fun z h3 h4 => ?_
        rw [List.getElem_set]
        by_cases e : j = z
        · subst e
          simp
        · rw [if_neg e]
          have e' : ¬ z = j := fun y => e y.symm
          simp [e']
      rw [ew] at q4
      exact q4
    · have cb : c ≠ b := fun z => by
        rw [z] at hc
        obtain ⟨l1, l2⟩ := List.getElem?_eq_some_iff.mp hc
        obtain ⟨l3, l4⟩ := List.getElem?_eq_some_iff.mp hb
        exact hx ((List.getElem_inj rb.nd).mp (l2.trans l4.symm))
      refine ⟨w1, w2, ys, by rw [upd_ne cb]; exact w3, ?_⟩
      have ew : (fun y => if x = i ∧ y = j then q else f x y) = f x := by
        funext y
        rw [if_neg (fun z => hx z.1)]
      show RpA K _ ys (rowR n fun y => if x = i ∧ y = j then q else f x y)
      rw [ew]
      exact w4.mono tu
end
section
variable {K : PySem.W.Frag} {T : List NTab} {mo : Option Addr} {n : Nat} {Γ : List Slot} {f : Nat → Nat → Rat} {H0 H : Hp} {σ : L2.St}
theorem rep_row (n : Nat) : List.replicate n (fr 0) = rowR n fun _ => 0 := by
  refine List.ext_getElem (by simp) fun i h1 h2 => ?_
  simp
/-- [], [[(0, 1)] * n for .. in range(n)] go to the slots 2 and 3 -/
theorem yes_then {σ : L2.St} {H : Hp} {A B : Hp → Prop} (h : A H) : tYes σ H fun b H3 => if b = true then A H3 else B H3 := by
  show if true = true then A H else B H
  rw [if_pos rfl]
  exact h
theorem lc_start {wi : TI} {g : TG} {tt : TT} {te : TE} {vs : List Nat} {σ : L2.St} {H : Hp} {Q : List V → Hp → Prop} (h : tLc wi g tt te vs σ H fun x H1 => Q [x] H1) : tCons (tLc wi g tt te vs) tNil σ H Q := h
theorem st_rows (hn : n ≤ 100) (hG : ∀ Γ' : List Slot, Γ' = wipeS Γ [5] → ∀ i : Nat, Ev K T mo (tOp rRep (tLst (tCons (tTup (tCons (tC (.int 0)) (tCons (tC (.int 1)) tNil))) tNil)) (tVar 1)) (Γ'.set 5 (.im (.int ((i : Nat) : Int)))) (.fl (List.replicate n (fr 0))))
    (hR : Av K T mo (tCons (tVar 1) tNil) Γ [.im (.int ((n : Nat) : Int))]) (hl : 3 < Γ.length) (E : EnvOk K T mo H0 H σ Γ) {D : Ends}
    (q : ∀ σ' H', EnvOk K T mo H0 H' σ' ((Γ.set 2 (.own [])).set 3 .none) → RowsAt K mo n H0 H' σ' (fun _ _ => 0) → TupLe H H' → D.nx σ' H') :
    (tPar 2 3 (tCons (tLst tNil) (tCons (tLc (iRng1 (tCons (tVar 1) tNil)) (gName 5) tYes (tOp rRep (tLst (tCons (tTup (tCons (tC (.int 0)) (tCons (tC (.int 1)) tNil))) tNil)) (tVar 1)) [5]) tNil))) D σ H := by
  refine ⟨Nat.zero_le _, fun c hc => ?_⟩
  have E1 := E.on (LeM.new (o := .lst []) hc)
  refine lc_start ?_
  refine it_rngN (j := 5) hR (by omega) H0 σ _ _ E1 (fun J H2 G e1 hG1 hgo hstop hy => ?_)
  intro Dl hD
  have E2 := E1.on e1
  have mD : mo ≠ some Dl := E1.wl.no (e1.fresh hD)
  have mc : mo ≠ some c := E.wl.no hc
  have c2 : H2 c = some (.lst []) := e1.lst mc upd_same
  refine lc_it (J := J) (n := n) (G := G) (Y := fun i H x H' => J.yld i H x H') ⟨fun i H' a b => hgo i H' a b, hstop, fun _ _ _ _ _ _ y => y⟩
    (fun i H' => LeM T mo H2 H' ∧ ∃ as : List Addr, H' Dl = some (.lst (as.map V.ref)) ∧ as.length = i ∧ as.Nodup ∧ Dl ∉ as ∧ ∀ b ∈ as, H2 b = none ∧ ∃ xs, H' b = some (.lst xs) ∧ RpA K H' xs (rowR n fun _ => 0))
    ⟨LeM.new hD, [], upd_same, rfl, List.nodup_nil, by simp, fun b hb => by cases hb⟩ (fun i H' _ p => hG1 H' p.1.tup) (fun i x H' H'' hi' p y => ?_) (fun H' p => ?_)
  · obtain ⟨pl, as, pD, plen, pnd, pna, prow⟩ := p
    obtain ⟨ly, hg⟩ := hy i H' x H'' hi' (hG1 H' pl.tup) y
    have E3 : EnvOk K T mo H0 H'' (L2.wipe σ [5]) (wipeS Γ [5]) := ((E2.on pl).on ly).wipe [5]
    refine hg H0 _ _ _ E3 fun σ2 E4 hw => ⟨(hw [5] (fun z hz => hz)).trans wipe_wipe, ?_⟩
    refine yes_then ?_
    refine hG _ rfl i H0 σ2 H'' _ E4 fun v H4 k hk e4 r4 => ?_
    subst hk
    obtain ⟨b, xs, rfl, b1, b2, b3⟩ := r4
    have l3 := pl.trans ly
    have D3 := ly.lst mD pD
    have D4 := e4.lst mD D3
    have tu := tup_upd (u := .lst (as.map V.ref ++ [.ref b])) D4 (fun _ z => nomatch z) (fun _ _ z => nomatch z)
    have bD : b ≠ Dl := fun z => by rw [z, D3] at b1; cases b1
    have bm : mo ≠ some b := E4.wl.no b1
    have mem : ∀ b' ∈ as, mo ≠ some b' ∧ b' ≠ b ∧ b' ≠ Dl := fun b' hb' => by
      obtain ⟨g1, ys, g2, _⟩ := prow b' hb'
      have m1 : mo ≠ some b' := E2.wl.no g1
      refine ⟨m1, fun z => ?_, fun z => pna (by rw [← z]; exact hb')⟩
      have := ly.lst m1 g2
      rw [z, b1] at this
      cases this
    refine ⟨as.map V.ref, D4, by rw [List.length_map, plen, sizeLine_eq]; omega, (l3.trans e4).mut hD mD D4, as ++ [b], by rw [upd_same, List.map_append]; rfl, by rw [List.length_append, plen]; rfl, ?_, ?_, fun b' hb' => ?_⟩
    · rw [List.nodup_append]
      refine ⟨pnd, by simp, fun z hz y hy => ?_⟩
      rw [List.mem_singleton.mp hy]
      exact (mem z hz).2.1
    · intro z
      rcases List.mem_append.mp z with z | z
      · exact pna z
      · exact bD (List.mem_singleton.mp z).symm
    · rcases List.mem_append.mp hb' with z | z
      · obtain ⟨g1, ys, g2, g3⟩ := prow b' z
        obtain ⟨m1, m2, m3⟩ := mem b' z
        exact ⟨g1, ys, by rw [upd_ne m3]; exact e4.lst m1 (ly.lst m1 g2), ((g3.mono ly.tup).mono e4.tup).mono tu⟩
      · have e := List.mem_singleton.mp z
        subst e
        refine ⟨l3.fresh b1, xs, by rw [upd_ne bD]; exact b2, ?_⟩
        rw [rep_row] at b3
        exact b3.mono tu
  · obtain ⟨pl, as, pD, plen, pnd, pna, prow⟩ := p
    have le : LeM T mo H H' := ((LeM.new hc).trans e1).trans pl
    have cH : H' c = some (.lst []) := pl.lst mc c2
    have Es := (E.setOwn le 2 (v := .ref c) (ds := []) ⟨c, [], rfl, hc, cH, .nil⟩).setAny (s := .none) 3 (some (.ref Dl)) rfl trivial
    have cD : c ≠ Dl := fun z => by rw [z, hD] at c2; cases c2
    have l2 : 2 < σ.length := by rw [E.len]; omega
    have l3 : 3 < σ.length := by rw [E.len]; exact hl
    refine ⟨.ref c, .ref Dl, rfl, q _ H' Es ⟨Dl, as, ?_, ?_, mD, pD, plen, pnd, pna, ?_, fun i b hb => ?_⟩ le.tup⟩
    · rw [List.getElem?_set_self (by rw [List.length_set]; exact l3)]
    · exact E2.le.fresh hD
    · intro z hz
      rw [List.getElem?_set_ne (by decide), List.getElem?_set_self l2] at hz
      cases hz
      refine ⟨cD, fun m => ?_⟩
      have := (prow c m).1
      rw [c2] at this
      cases this
    · obtain ⟨g1, xs, g2, g3⟩ := prow b (List.mem_of_getElem? hb)
      exact ⟨E2.le.fresh g1, E2.wl.no g1, xs, g2, g3⟩
/-- tuple([tuple(row) for row in rows]) -/
theorem rows_tup (hn : n ≤ 100) (E : EnvOk K T mo H0 H σ Γ) (W : RowsAt K mo n H0 H σ f) (hl : 8 < Γ.length) {Q : VK} (q : ∀ v H', LeM T mo H H' → Rp K H' v (rowD n fun i => .tup (rowR n (f i))) → Q v H') :
    (tCB (rTupA K) (tCons (tLc (iList K (tVar 3)) (gName 8) tYes (tCB (rTupA K) (tCons (tVar 8) tNil)) [8]) tNil)) σ H Q := by
  obtain ⟨a, as, r⟩ := W
  refine ⟨.ref a, r.at_, a, rfl, ⟨_, .of r.ah⟩, fun Dl hD => ?_⟩
  have mD : mo ≠ some Dl := E.wl.no hD
  refine lc_it (J := Itl K a) (n := n) (G := fun H' => LeM T mo H H') (Y := fun i H x H' => (Itl K a).yld i H x H')
    ⟨fun i H' hi hx => ⟨_, .ref (as[i]'(by rw [r.len]; exact hi)), .of (hx.lst r.am r.ah), by rw [List.getElem?_map, List.getElem?_eq_getElem (by rw [r.len]; exact hi)]; rfl⟩, fun H' hx => ⟨_, .of (hx.lst r.am r.ah), by rw [List.length_map, r.len]; exact Nat.le_refl _⟩, fun _ _ _ _ _ _ y => y⟩
    (fun i H' => LeM T mo H H' ∧ ∃ xs, H' Dl = some (.lst xs) ∧ RpA K H' xs ((List.range i).map fun i => .tup (rowR n (f i)))) ⟨LeM.new hD, [], upd_same, .nil⟩ (fun i H' _ p => p.1) (fun i x H' H'' hi' p y => ?_) (fun H' p => ?_)
  · obtain ⟨pl, xs, pD, pr⟩ := p
    obtain ⟨e, hx⟩ := y
    subst e
    have hx := hx _ (.of (pl.lst r.am r.ah))
    obtain ⟨b, hb⟩ : ∃ b, as[i]? = some b := ⟨as[i]'(by rw [r.len]; exact hi'), List.getElem?_eq_getElem _⟩
    rw [List.getElem?_map, hb] at hx
    cases hx
    obtain ⟨g1, g2, ys, g3, g4⟩ := r.row i b hb
    have g3' := pl.lst g2 g3
    have l8 : 8 < (L2.wipe σ [8]).length := by rw [wipe_length, E.len]; exact hl
    refine ⟨wipe_set (by simp) |>.trans wipe_wipe, ?_⟩
    refine yes_then ?_
    refine ⟨.ref b, List.getElem?_set_self l8, b, ys, rfl, .inl ⟨.of g3', fun l hl' => ?_⟩⟩
    have lD : l ≠ Dl := fun z => by rw [z, pD] at hl'; cases hl'
    have pD2 : upd H'' l (.tup ys) Dl = some (.lst xs) := by rw [upd_ne (fun z => lD z.symm)]; exact pD
    have t1 := (LeM.new (T := T) (mo := mo) (o := .tup ys) hl').tup
    have t2 := tup_upd (u := .lst (xs ++ [.ref l])) pD2 (fun _ z => nomatch z) (fun _ _ z => nomatch z)
    have hlen : xs.length = i := by rw [pr.length, List.length_map, List.length_range]
    refine ⟨xs, pD2, by rw [hlen, sizeLine_eq]; omega, (pl.trans (LeM.new hl')).mut hD mD pD2, _, upd_same, ?_⟩
    rw [List.range_succ, List.map_append]
    exact ((pr.mono t1).append (.cons (.tup (.inl (.inl upd_same)) ((g4.mono pl.tup).mono t1)) .nil)).mono t2
  · obtain ⟨pl, xs, pD, pr⟩ := p
    refine ⟨Dl, xs, rfl, .inl ⟨.of pD, fun l hl' => q _ _ (pl.trans (LeM.new hl')) (.tup (.inl (.inl upd_same)) (pr.mono (LeM.new (T := T) (mo := mo) hl').tup))⟩⟩
end
end Hn
end

section
set_option Elab.async false
set_option linter.all false
set_option maxRecDepth 100000
set_option maxHeartbeats 1000000
/-! the law's call, for defs entered while no repr runs -/
namespace Hn
open PySem PySem.Spec PyProof.Rows L2 NdefX LamX
/-- what is tracked at first: the tables, empty; the script, where K does not hold it -/
def startH (K : PySem.W.Frag) (a : Addr) (u : HO) (ts : List Addr) : Hp := fun b => if b ∈ ts then some (.tbl #[]) else if b = a ∧ (K.lookup a).isNone = true then some u else none
theorem startH_tab {K : PySem.W.Frag} {a b : Addr} {u : HO} {ts : List Addr} (h : b ∈ ts) : startH K a u ts b = some (.tbl #[]) := by
  unfold startH
  rw [if_pos h]
theorem startH_some {K : PySem.W.Frag} {a b : Addr} {u v : HO} {ts : List Addr} (h : startH K a u ts b = some v) : (b ∈ ts ∧ v = .tbl #[]) ∨ (b = a ∧ K.lookup a = none ∧ v = u) := by
  unfold startH at h
  by_cases h1 : b ∈ ts
  · rw [if_pos h1] at h
    exact .inl ⟨h1, (Option.some.inj h).symm⟩
  · rw [if_neg h1] at h
    by_cases h2 : b = a ∧ (K.lookup a).isNone = true
    · rw [if_pos h2] at h
      exact .inr ⟨h2.1, Option.isNone_iff_eq_none.mp h2.2, (Option.some.inj h).symm⟩
    · rw [if_neg h2] at h
      cases h
section
variable {P : Program} {w : World} {K : PySem.W.Frag} {mg mb : Str → Option Value} {k : Nat} {fa a : Addr} {cs : List (Addr × Addr)} {fd : FuncData} {x : Str} {sp : Sp} {sA : Shared} {us : List Value} {ns : List Int}
theorem law_callG (hK : K.In sA.heap) (gl : sA.heap.Ns mainGlobals mg) (bl : sA.heap.Ns builtinsNs mb) (bb : ∀ y : Str, y ≠ "__name__" → mb y = bootBuiltins y) (nl : sA.heap.NoLimit) (ge : sA.gens = #[])
    (tabE : ∀ p ∈ cs, sA.heap.get? p.2 = some { cls := .none, data := .fields #[] }) (tabN : ∀ p ∈ cs, K.lookup p.2 = none) (code : ∀ p ∈ cs, PySem.W.CodeHd sA.heap p.1 p.2)
    (main : ∃ (bm : Addr) (ob : Obj), mg "__builtins__" = some (.ref bm) ∧ bm ≠ builtinsNs ∧ sA.heap.get? bm = some ob ∧ ob.cls = .type "module" ∧ ob.dict = some builtinsNs ∧ ob.data = .plain)
    (scr : sA.heap.get? a = some { cls := .type "list", data := .seq us.toArray }) (areI : IntsAre us ns) (short : ns.length ≤ sizeLine) (room : Room k callerA)
    (fn : ∀ base : Heap, K.In base → base.Ns mainGlobals mg → (∀ p ∈ cs, TabB base mg p.1 p.2) → FnG P w K mg base k fa fd [x] sp) (bind : ∀ (s : Shared) (u : Value), BindsTo s fd ⟨[u], []⟩ [(x, u)])
    (prm : ∀ H : Hp, (∀ p ∈ cs, H p.2 = some (.tbl #[])) → SqL K H a (ns.map V.int) → sp [.ref a] H (fun v _ => v = .bl true) E0) :
    codeAny (model P w) callerA (.call (.ref fa) ⟨[.ref a], []⟩) (fun r s' => r = .ok (.ret (.bool true)) ∧ OldK sA.heap s'.heap ∧ s'.os = sA.os ∧ AllBare s'.gens) sA := by
  let oA : Obj := { cls := .type "list", data := .seq us.toArray }
  let H : Hp := startH K a (.frz oA (.lst (ns.map V.int))) (cs.map (·.2))
  have inT : ∀ p ∈ cs, p.2 ∈ cs.map (·.2) := fun p hp => List.mem_map.mpr ⟨p, hp, rfl⟩
  have tabAt : ∀ b ∈ cs.map (·.2), sA.heap.get? b = some { cls := .none, data := .fields #[] } ∧ K.lookup b = none := fun b hb => by
    obtain ⟨p, hp, rfl⟩ := List.mem_map.mp hb
    exact ⟨tabE p hp, tabN p hp⟩
  have aNot : a ∉ cs.map (·.2) := fun z => by
    have := (tabAt a z).1
    rw [scr] at this
    have : Data.seq us.toArray _ = Data.fields #[] := congrArg Obj.data (Option.some.inj this)
    cases this
  have vals := vals_ints areI
  have lenU := areI.length
  have size : us.toArray.size ≤ sizeLine := by rw [List.size_toArray, lenU]; exact short
  have tracked : ∀ b v, H b = some v → (sA.heap.get? b = some { cls := .none, data := .fields #[] } ∧ b ∈ cs.map (·.2) ∧ v = .tbl #[]) ∨ (b = a ∧ K.lookup a = none ∧ v = .frz oA (.lst (ns.map V.int))) := fun b v h => by
    rcases startH_some h with ⟨h1, h2⟩ | h
    · exact .inl ⟨(tabAt b h1).1, h1, h2⟩
    · exact .inr h
  have free : ∀ {b : Addr} {o : Obj}, sA.heap.get? b = some o → (∀ its n, o.data ≠ .seq its n) → o.data ≠ .fields #[] → H b = none := fun {b o} e n1 n2 => by
    cases q : H b with
    | none => rfl
    | some v =>
      rcases tracked b v q with ⟨h, _⟩ | ⟨h, _⟩
      · rw [e] at h
        rw [Option.some.inj h] at n2
        exact (n2 rfl).elim
      · rw [h, scr] at e
        rw [← Option.some.inj e] at n1
        exact (n1 _ _ rfl).elim
  have under : ∀ {b : Addr} {o : Obj}, sA.heap.get? b = some o → H b = none → (hidT sA.heap H).get? b = some o := fun e n => hidT_get e n
  have spaces : ∀ {b : Addr} {m : Str → Option Value}, sA.heap.Ns b m → (hidT sA.heap H).Ns b m := fun {b m} ⟨o, es, ep, e, d, r⟩ =>
    ⟨o, es, ep, under e (free e (fun _ _ z => by rw [d] at z; cases z) (fun z => by rw [d] at z; cases z)), d, r⟩
  have inB : K.In (hidT sA.heap H) := fun b o e => under (hK b o e) (by
    cases q : H b with
    | none => rfl
    | some v =>
      rcases tracked b v q with ⟨_, h, _⟩ | ⟨h, h2, _⟩
      · rw [(tabAt b h).2] at e
        cases e
      · rw [h, h2] at e
        cases e)
  have tabB : ∀ p ∈ cs, TabB (hidT sA.heap H) mg p.1 p.2 := fun p hp => by
    refine ⟨?_, ?_, fun z => ?_⟩
    · obtain ⟨o, fs, file, tf, flags, tg, inF, text, tt, e1, r1, r2, r3, r4, r5, r6, r7, r8, hne⟩ := code p hp
      refine ⟨o, fs, file, tf, flags, tg, inF, text, tt, under e1 (free e1 (fun _ _ z => by rw [r2] at z; cases z) fun z => ?_), r1, r2, r3, r4, r5, r6, r7, r8, hne⟩
      rw [r2] at z
      have z := Data.fields.inj z
      rw [z] at r3
      simp at r3
    · obtain ⟨bm, ob, b1, b2, b3, b4, b5, b6⟩ := main
      refine ⟨bm, ob, b1, b2, fun z => ?_, fun z => ?_, under b3 (free b3 (fun _ _ z => by rw [b6] at z; cases z) fun z => by rw [b6] at z; cases z), b4, b5, b6⟩
      · obtain ⟨o, es, ep, e, hd, _⟩ := gl
        rw [z, e] at b3
        rw [← Option.some.inj b3, hd] at b6
        cases b6
      · rw [z, tabE p hp] at b3
        rw [← Option.some.inj b3] at b6
        cases b6
    · obtain ⟨o, es, ep, e, hd, _⟩ := gl
      rw [z, tabE p hp] at e
      rw [← Option.some.inj e] at hd
      cases hd
  have hok : HOk P w H sA.heap := fun b v q => by
    rcases tracked b v q with ⟨h, _, rfl⟩ | ⟨rfl, _, rfl⟩
    · exact h
    · exact ⟨scr, by rw [List.length_map]; exact short, us, _, vals, scr⟩
  have sql : SqL K H a (ns.map V.int) := by
    cases q : K.lookup a with
    | none => exact .inl (.inr ⟨oA, by show startH _ _ _ _ _ = _; unfold startH; rw [if_neg aNot, if_pos ⟨rfl, by rw [q]; rfl⟩]⟩)
    | some o =>
      have e := hK a o q
      rw [scr] at e
      cases e
      exact .inr ⟨_, us.toArray, _, q, rfl, rfl, rfl, size, by simpa using vals⟩
  have e0 : Env0 P w K mg (hidT sA.heap H) callerA [] sA H :=
    ⟨rfl, ⟨inB, spaces gl, ⟨mb, spaces bl, bb⟩, let ⟨mc, h1, h2⟩ := nl; ⟨mc, spaces h1, h2⟩⟩, fun b o e => of_hidT e, Nat.le_of_eq (hidT_size _ _), trivial, fun b hb => absurd (show b ∈ ([] : List Addr) from hb) (by simp), hok, .of_eq ge⟩
  have call := (fn _ inB (spaces gl) tabB).run callerA [] sA H ⟨[.ref a], []⟩ [.ref a] [.ref a] _ room rfl e0 (bind sA (.ref a)) (.cons rfl .nil) (prm H (fun p hp => startH_tab (inT p hp)) sql)
  refine codeAny_mono call fun r s' h => ?_
  match r, h with
  | .error e, h => exact (show False from h).elim
  | .ok .next, h => exact (show False from h).elim
  | .ok .brk, h => exact (show False from h).elim
  | .ok .cont, h => exact (show False from h).elim
  | .ok (.ret u), ⟨v, H', os, bare, un, hok', rv, q⟩ =>
    have q : v = .bl true := q
    subst q
    have rv : u = Value.bool true := rv
    subst rv
    have old : ∀ b o, b ∉ cs.map (·.2) → sA.heap.get? b = some o → s'.heap.get? b = some o := fun b o nb e => by
      cases q : H b with
      | none => exact un.keep b o e q (by intro z; exact absurd (show b ∈ ([] : List Addr) from z) (by simp)) (by simp)
      | some v =>
        rcases tracked b v q with ⟨_, z, _⟩ | ⟨z1, _, z2⟩
        · exact absurd z nb
        · subst z1 z2
          have h1 := (hok' b _ (un.frzs b _ _ q)).1
          rw [scr] at e
          cases e
          exact h1
    have more : ∀ b ∈ cs.map (·.2), ∃ fs : Array Value, s'.heap.get? b = some { cls := .none, data := .fields fs } := fun b hb => by
      obtain ⟨fs, z⟩ := un.tbls b #[] (startH_tab hb)
      exact ⟨_, hok' b _ z⟩
    refine ⟨rfl, ⟨fun b o e => ?_, fun b o e => ?_⟩, os, bare⟩
    · by_cases hb : b ∈ cs.map (·.2)
      · obtain ⟨fs, hm⟩ := more b hb
        obtain ⟨p, hp, rfl⟩ := List.mem_map.mp hb
        have e2 := tabE p hp
        rw [e2] at e
        cases e
        exact .inr (.inl ⟨((code p hp).tab (tabE p hp)).isCodeTable, rfl, #[], fs, rfl, by rw [Array.empty_append]; exact hm⟩)
      · exact .inl (old b o hb e)
    · by_cases hb : b ∈ cs.map (·.2)
      · obtain ⟨fs, hm⟩ := more b hb
        exact ⟨_, hm⟩
      · exact ⟨o, old b o hb e⟩
end
end Hn
end

section
set_option Elab.async false
set_option linter.all false
set_option maxRecDepth 100000
set_option maxHeartbeats 1000000
namespace Hn
open PySem PySem.Spec PyProof.Rows L2 NdefX LamX HnQ
section
variable {P : Program} {w : World} {K : PySem.W.Frag} {mg : Str → Option Value} {base : Heap} {T : List NTab}
/-- lists stay, so tuples stay -/
theorem StP.weak {mo : Option Addr} {ts : TS} {Γ : List Slot} {N : List Slot → Prop} {R : Kd → Prop} (h : StP K T mo false ts Γ N R) : StP K T mo true ts Γ N R := fun H0 σ H D E q1 q2 => h H0 σ H D E (fun Γ' σ' H' z E' s => q1 Γ' σ' H' z E' (Stay.tup s)) q2
/-- a def that is never called -/
theorem gf_never {x : Str} {st : Stmt} {ps : List Str} {k : Nat} (F : Fg K mg x st) (hb : ∀ (kV doc pm : Value) (an : Option Addr) (cdv ct : Value) (us : List Value), us.length = ps.length → bindArgs (PySem.W.fnOf x x (defArgs st) (defBody st) (defScope st) .none kV doc pm an cdv ct) ⟨us, []⟩ = pure (ps.zip us)) :
    GFn P w K mg base x st ps k (fun _ _ _ _ => False) := by
  obtain ⟨f, fd, hm, F⟩ := F
  exact ⟨f, fd, hm, ⟨fun _ _ _ z => z.elim, fun _ _ _ _ _ _ _ _ _ _ _ _ _ z => z.elim⟩, F, F.binds hb⟩
/-- a number of less than 4000 bits -/
def B4 (i : Int) : Prop := i.natAbs < 2 ^ 4000
theorem B4.n {q : Rat} (h : Small q) : B4 q.num := h.num
theorem B4.d {q : Rat} (h : Small q) : B4 (q.den : Int) := h.den
theorem log4 {i : Int} (h : B4 i) : i.natAbs.log2 < 4001 := PySem.Flt.log2_lt_of (by decide) (Nat.lt_of_lt_of_le h (two_le (by decide)))
theorem ev_mulB {mo : Option Addr} {ta tb : TE} {Γ : List Slot} {i j : Int} (ha : Ev K T mo ta Γ (.im (.int i))) (hb : Ev K T mo tb Γ (.im (.int j))) (h1 : B4 i) (h2 : B4 j) : Ev K T mo (tOp (rI CMulW fun i j => .int (i * j)) ta tb) Γ (.im (.int (i * j))) :=
  ev_opI ha hb (by have := log4 h1; have := log4 h2; unfold CMulW; omega)
inductive R_is_whole : List Kd → Kd → Prop
  | mk (i : Int) : R_is_whole [.im (.int i)] (.im (.bl true))
theorem g_is_whole (M : Mods K mg)  : PFn P w K mg base T "is_whole" s_is_whole ["value"] 1 R_is_whole := by
  refine pf_of (T := T) M.f_is_whole sc_is_whole (fun ks k h => by cases h; rfl) (fun _ _ _ _ _ _ us hl => match us, hl with | [_], _ => rfl) fun f cdv A outer s H hr gd => ⟨_,
    (pss_one (ps_ret (pe_and (pe_callB (isiK (K := K) rfl) (by rfl) M.n_isinstance PyProof.Rows.boot_isinstance (pa_cons (pv 0) (pa_cons (pe_bltn (v := .ty "int") (by rfl) M.n_int (by decide +kernel) rfl) pa_nil))) (pe_one (pe_not (pe_callB (isiK (K := K) rfl) (by rfl) M.n_isinstance PyProof.Rows.boot_isinstance (pa_cons (pv 0) (pa_cons (pe_bltn (v := .ty "bool") (by rfl) M.n_bool (by decide +kernel) rfl) pa_nil)))))))), fun ks k h => ?_⟩
  cases h with
  | mk i =>
    exact st_ret (ev_andV (ev_isi (av_cons ((ev_var rfl rfl)) (av_cons (ev_ty) av_nil)) rfl) fun _ => ev_notV (ev_isi (av_cons ((ev_var rfl rfl)) (av_cons (ev_ty) av_nil)) rfl)) rfl
inductive R_is_between : List Kd → Kd → Prop
  | mk (i lo hi : Int) : R_is_between [.im (.int i), .im (.int lo), .im (.int hi)] (.im (.bl (decide (lo ≤ i) && decide (i ≤ hi))))
theorem g_is_between (M : Mods K mg) (G_is_whole : PFn P w K mg base T "is_whole" s_is_whole ["value"] 1 R_is_whole) : PFn P w K mg base T "is_between" s_is_between ["value", "low", "high"] 2 R_is_between := by
  refine pf_of (T := T) M.f_is_between sc_is_between (fun ks k h => by cases h; rfl) (fun _ _ _ _ _ _ us hl => match us, hl with | [_, _, _], _ => rfl) fun f cdv A outer s H hr gd => ⟨_,
    (pss_one (ps_ret (pe_and (pe_gf G_is_whole hr (by decide) gd (by rfl) (pa_cons (pv 0) pa_nil)) (pe_one (pe_chain op_le op_le (pv 1) (pv 0) (pv 2)))))), fun ks k h => ?_⟩
  cases h with
  | mk i lo hi =>
    exact st_ret ((ev_andV (ev_call (av_cons ((ev_var rfl rfl)) av_nil) (R_is_whole.mk _)) fun _ => ev_chainI (ev_var rfl rfl) (ev_var rfl rfl) (ev_var rfl rfl))) rfl
inductive R_is_tuple_of : List Kd → Kd → Prop
  | mk (ds : List D) (n : Int) : R_is_tuple_of [.im (.tup ds), .im (.int n)] (.im (.bl (decide ((ds.length : Int) = n))))
theorem g_is_tuple_of (M : Mods K mg)  : PFn P w K mg base T "is_tuple_of" s_is_tuple_of ["value", "many"] 1 R_is_tuple_of := by
  refine pf_of (T := T) M.f_is_tuple_of sc_is_tuple_of (fun ks k h => by cases h; rfl) (fun _ _ _ _ _ _ us hl => match us, hl with | [_, _], _ => rfl) fun f cdv A outer s H hr gd => ⟨_,
    (pss_one (ps_ret (pe_and (pe_callB (isiK (K := K) rfl) (by rfl) M.n_isinstance PyProof.Rows.boot_isinstance (pa_cons (pv 0) (pa_cons (pe_bltn (v := .ty "tuple") (by rfl) M.n_tuple (by decide +kernel) rfl) pa_nil))) (pe_one (pe_cmpR op_eq (pe_callB (lenK (K := K) rfl) (by rfl) M.n_len PySem.boot_len (pa_cons (pv 0) pa_nil)) (pv 1) (nomark _)))))), fun ks k h => ?_⟩
  cases h with
  | mk ds n =>
    exact st_ret (ev_andV (ev_isi (av_cons ((ev_var rfl rfl)) (av_cons (ev_ty) av_nil)) rfl) fun _ => ev_eqI (ev_lenT (ev_var rfl rfl)) (ev_var rfl rfl)) rfl
inductive R_is_ratio : List Kd → Kd → Prop
  | mk (q : Rat) : R_is_ratio [.im (fr q)] (.im (.bl true))
theorem g_is_ratio (M : Mods K mg) (G_is_whole : PFn P w K mg base T "is_whole" s_is_whole ["value"] 1 R_is_whole) (G_is_tuple_of : PFn P w K mg base T "is_tuple_of" s_is_tuple_of ["value", "many"] 1 R_is_tuple_of) : PFn P w K mg base T "is_ratio" s_is_ratio ["value"] 2 R_is_ratio := by
  refine pf_of (T := T) M.f_is_ratio sc_is_ratio (fun ks k h => by cases h; rfl) (fun _ _ _ _ _ _ us hl => match us, hl with | [_], _ => rfl) fun f cdv A outer s H hr gd => ⟨_,
    (pss_cons (ps_if (PW.pt (pw_or (pt_not (pt_val (pe_gf G_is_tuple_of hr (by decide) gd (by rfl) (pa_cons (pv 0) (pa_cons pe_int pa_nil))))) (pw_or (pt_not (pt_val (pe_gf G_is_whole hr (by decide) gd (by rfl) (pa_cons (pe_ix (ixT (K := K) rfl) (pv 0) pe_int (fun _ _ => rfl)) pa_nil)))) (pw_or1 (pt_not (pt_val (pe_gf G_is_whole hr (by decide) gd (by rfl) (pa_cons (pe_ix (ixT (K := K) rfl) (pv 0) pe_int (fun _ _ => rfl)) pa_nil)))))))) (pss_one (ps_ret pe_bl)) pss_nil)
      (pss_one (ps_ret (pe_and (pe_cmpR op_gt (pe_ix (ixT (K := K) rfl) (pv 0) pe_int (fun _ _ => rfl)) pe_int (nomark _)) (pe_one (pe_cmpR op_eq (pe_callBfun cr_gcd (by rfl) M.n_gcd (pa_cons (pe_ix (ixT (K := K) rfl) (pv 0) pe_int (fun _ _ => rfl)) (pa_cons (pe_ix (ixT (K := K) rfl) (pv 0) pe_int (fun _ _ => rfl)) pa_nil))) pe_int (nomark _))))))), fun ks k h => ?_⟩
  cases h with
  | mk q =>
    refine st_seq (Γ1 := [.im (fr q)]) (st_no ((tv_or (tv_not (tv_B (ev_call (av_cons ((ev_var rfl rfl)) (av_cons (ev_int) av_nil)) (R_is_tuple_of.mk _ _)))) fun _ => tv_or (tv_not (tv_B (ev_call (av_cons (ev_ixT (ev_var rfl rfl) ev_int rfl) av_nil) (R_is_whole.mk _)))) fun _ => tv_not (tv_B (ev_call (av_cons (ev_ixT (ev_var rfl rfl) ev_int rfl) av_nil) (R_is_whole.mk _)))).as rfl) st_next) ?_
    refine st_ret ((ev_andV (ev_opB0 (ev_ixT (ev_var rfl rfl) ev_int rfl) ev_int) fun _ => ev_eqI (ev_gcd (av_cons (ev_ixT (ev_var rfl rfl) ev_int rfl) (av_cons (ev_ixT (ev_var rfl rfl) ev_int rfl) av_nil))) ev_int).as ?_) rfl
    have h1 : decide ((q.den : Int) > 0) = true := decide_eq_true (by have := q.den_pos; omega)
    have h2 : Nat.gcd q.num.natAbs (q.den : Int).natAbs = 1 := q.reduced
    rw [h1, h2]
    rfl
/-- numbers of less than 9000 bits -/
def Big (i : Int) : Prop := i.natAbs < 2 ^ 9000
inductive R_ratio : List Kd → Kd → Prop
  | mk (a b : Int) (hb : b ≠ 0) (h : Big b) : R_ratio [.im (.int a), .im (.int b)] (.im (fr (Rat.divInt a b)))
theorem div_sgcd {a b : Int} (hb : b ≠ 0) (h : Big b) (x : Int) : CDivZ x (sgcd a b) := by
  refine ⟨sgcd_ne hb, PySem.Flt.log2_lt_of (by decide) (Nat.lt_of_le_of_lt ?_ h)⟩
  have dv : sgcd a b ∣ b := by
    unfold sgcd
    split
    · exact Int.ofNat_dvd_left.mpr (Nat.gcd_dvd_right _ _)
    · exact Int.neg_dvd.mpr (Int.ofNat_dvd_left.mpr (Nat.gcd_dvd_right _ _))
  exact Nat.le_of_dvd (by omega) (Int.natAbs_dvd_natAbs.mpr dv)
theorem g_ratio (M : Mods K mg)  : PFn P w K mg base T "ratio" s_ratio ["top", "low"] 1 R_ratio := by
  refine pf_of (T := T) M.f_ratio sc_ratio (fun ks k h => by cases h; rfl) (fun _ _ _ _ _ _ us hl => match us, hl with | [_, _], _ => rfl) fun f cdv A outer s H hr gd => ⟨_,
    (pss_cons (ps_set (i := 2) sc_ratio.nd rfl (.inl rfl) (pe_ifExp (pt_cmpR op_gt (pv 1) pe_int (nomark _)) (pe_callBfun cr_gcd (by rfl) M.n_gcd (pa_cons (pv 0) (pa_cons (pv 1) pa_nil))) (pe_un un_neg (pe_callBfun cr_gcd (by rfl) M.n_gcd (pa_cons (pv 0) (pa_cons (pv 1) pa_nil))))))
      (pss_one (ps_ret (pe_tup (pa_cons (pe_op op_fdivZ (pv 0) (pv 2)) (pa_cons (pe_op op_fdivZ (pv 1) (pv 2)) pa_nil)))))), fun ks k h => ?_⟩
  cases h with
  | mk a b hb hs =>
    refine st_seq (Γ1 := [.im (.int a), .im (.int b), .im (.int (sgcd a b))]) (st_set ((ev_ifD (tv_test (ev_opB0 (ev_var rfl rfl) ev_int)) (fun _ => ev_gcd (av_cons ((ev_var rfl rfl)) (av_cons ((ev_var rfl rfl)) av_nil))) (fun _ => ev_unI (ev_gcd (av_cons ((ev_var rfl rfl)) (av_cons ((ev_var rfl rfl)) av_nil))))).as (k' := .im (.int (sgcd a b))) ?_)) ?_
    · unfold sgcd
      by_cases h : 0 < b <;> simp [h]
    · refine st_ret (ev_tup (ds := [.int _, .int _]) (av_cons (ev_opI (ev_var rfl rfl) (ev_var rfl rfl) (div_sgcd hb hs _)) (av_cons (ev_opI (ev_var rfl rfl) (ev_var rfl rfl) (div_sgcd hb hs _)) av_nil))) ?_
      rw [sgcd_num hb, sgcd_den hb]
theorem big_mul {i j : Int} (h1 : B4 i) (h2 : B4 j) : Big (i * j) := by
  unfold Big
  rw [Int.natAbs_mul]
  exact Nat.lt_of_lt_of_le (mul_lt h1 h2) (two_le (by decide))
inductive R_plus : List Kd → Kd → Prop
  | mk (p q : Rat) (hp : Small p) (hq : Small q) : R_plus [.im (fr p), .im (fr q)] (.im (fr (p + q)))
theorem g_plus (M : Mods K mg) (G_ratio : PFn P w K mg base T "ratio" s_ratio ["top", "low"] 1 R_ratio) : PFn P w K mg base T "plus" s_plus ["one", "two"] 2 R_plus := by
  refine pf_of (T := T) M.f_plus sc_plus (fun ks k h => by cases h; rfl) (fun _ _ _ _ _ _ us hl => match us, hl with | [_, _], _ => rfl) fun f cdv A outer s H hr gd => ⟨_,
    (pss_one (ps_ret (pe_gf G_ratio hr (by decide) gd (by rfl) (pa_cons (pe_op op_add (pe_op op_mulW (pe_ix (ixT (K := K) rfl) (pv 0) pe_int (fun _ _ => rfl)) (pe_ix (ixT (K := K) rfl) (pv 1) pe_int (fun _ _ => rfl))) (pe_op op_mulW (pe_ix (ixT (K := K) rfl) (pv 1) pe_int (fun _ _ => rfl)) (pe_ix (ixT (K := K) rfl) (pv 0) pe_int (fun _ _ => rfl)))) (pa_cons (pe_op op_mulW (pe_ix (ixT (K := K) rfl) (pv 0) pe_int (fun _ _ => rfl)) (pe_ix (ixT (K := K) rfl) (pv 1) pe_int (fun _ _ => rfl))) pa_nil))))), fun ks k h => ?_⟩
  cases h with
  | mk p q hp hq =>
    refine st_ret (ev_call (av_cons (ev_opI0 (ev_mulB (ev_ixT (ev_var rfl rfl) ev_int rfl) (ev_ixT (ev_var rfl rfl) ev_int rfl) (B4.n hp) (B4.d hq)) (ev_mulB (ev_ixT (ev_var rfl rfl) ev_int rfl) (ev_ixT (ev_var rfl rfl) ev_int rfl) (B4.n hq) (B4.d hp))) (av_cons ((ev_mulB (ev_ixT (ev_var rfl rfl) ev_int rfl) (ev_ixT (ev_var rfl rfl) ev_int rfl) (B4.d hp) (B4.d hq))) av_nil)) (R_ratio.mk _ _ (dens_ne p q) (big_mul (B4.d hp) (B4.d hq)))) ?_
    rw [plus_eq]
inductive R_minus : List Kd → Kd → Prop
  | mk (p q : Rat) (hp : Small p) (hq : Small q) : R_minus [.im (fr p), .im (fr q)] (.im (fr (p - q)))
theorem g_minus (M : Mods K mg) (G_ratio : PFn P w K mg base T "ratio" s_ratio ["top", "low"] 1 R_ratio) : PFn P w K mg base T "minus" s_minus ["one", "two"] 2 R_minus := by
  refine pf_of (T := T) M.f_minus sc_minus (fun ks k h => by cases h; rfl) (fun _ _ _ _ _ _ us hl => match us, hl with | [_, _], _ => rfl) fun f cdv A outer s H hr gd => ⟨_,
    (pss_one (ps_ret (pe_gf G_ratio hr (by decide) gd (by rfl) (pa_cons (pe_op op_sub (pe_op op_mulW (pe_ix (ixT (K := K) rfl) (pv 0) pe_int (fun _ _ => rfl)) (pe_ix (ixT (K := K) rfl) (pv 1) pe_int (fun _ _ => rfl))) (pe_op op_mulW (pe_ix (ixT (K := K) rfl) (pv 1) pe_int (fun _ _ => rfl)) (pe_ix (ixT (K := K) rfl) (pv 0) pe_int (fun _ _ => rfl)))) (pa_cons (pe_op op_mulW (pe_ix (ixT (K := K) rfl) (pv 0) pe_int (fun _ _ => rfl)) (pe_ix (ixT (K := K) rfl) (pv 1) pe_int (fun _ _ => rfl))) pa_nil))))), fun ks k h => ?_⟩
  cases h with
  | mk p q hp hq =>
    refine st_ret (ev_call (av_cons (ev_opI0 (ev_mulB (ev_ixT (ev_var rfl rfl) ev_int rfl) (ev_ixT (ev_var rfl rfl) ev_int rfl) (B4.n hp) (B4.d hq)) (ev_mulB (ev_ixT (ev_var rfl rfl) ev_int rfl) (ev_ixT (ev_var rfl rfl) ev_int rfl) (B4.n hq) (B4.d hp))) (av_cons ((ev_mulB (ev_ixT (ev_var rfl rfl) ev_int rfl) (ev_ixT (ev_var rfl rfl) ev_int rfl) (B4.d hp) (B4.d hq))) av_nil)) (R_ratio.mk _ _ (dens_ne p q) (big_mul (B4.d hp) (B4.d hq)))) ?_
    rw [minus_eq]
inductive R_times : List Kd → Kd → Prop
  | mk (p q : Rat) (hp : Small p) (hq : Small q) : R_times [.im (fr p), .im (fr q)] (.im (fr (p * q)))
theorem g_times (M : Mods K mg) (G_ratio : PFn P w K mg base T "ratio" s_ratio ["top", "low"] 1 R_ratio) : PFn P w K mg base T "times" s_times ["one", "two"] 2 R_times := by
  refine pf_of (T := T) M.f_times sc_times (fun ks k h => by cases h; rfl) (fun _ _ _ _ _ _ us hl => match us, hl with | [_, _], _ => rfl) fun f cdv A outer s H hr gd => ⟨_,
    (pss_one (ps_ret (pe_gf G_ratio hr (by decide) gd (by rfl) (pa_cons (pe_op op_mulW (pe_ix (ixT (K := K) rfl) (pv 0) pe_int (fun _ _ => rfl)) (pe_ix (ixT (K := K) rfl) (pv 1) pe_int (fun _ _ => rfl))) (pa_cons (pe_op op_mulW (pe_ix (ixT (K := K) rfl) (pv 0) pe_int (fun _ _ => rfl)) (pe_ix (ixT (K := K) rfl) (pv 1) pe_int (fun _ _ => rfl))) pa_nil))))), fun ks k h => ?_⟩
  cases h with
  | mk p q hp hq =>
    refine st_ret (ev_call (av_cons (ev_mulB (ev_ixT (ev_var rfl rfl) ev_int rfl) (ev_ixT (ev_var rfl rfl) ev_int rfl) (B4.n hp) (B4.n hq)) (av_cons ((ev_mulB (ev_ixT (ev_var rfl rfl) ev_int rfl) (ev_ixT (ev_var rfl rfl) ev_int rfl) (B4.d hp) (B4.d hq))) av_nil)) (R_ratio.mk _ _ (dens_ne p q) (big_mul (B4.d hp) (B4.d hq)))) ?_
    rw [times_eq]
inductive R_over : List Kd → Kd → Prop
  | mk (p q : Rat) (hp : Small p) (hq : Small q) (h0 : q ≠ 0) : R_over [.im (fr p), .im (fr q)] (.im (fr (p / q)))
theorem g_over (M : Mods K mg) (G_ratio : PFn P w K mg base T "ratio" s_ratio ["top", "low"] 1 R_ratio) : PFn P w K mg base T "over" s_over ["one", "two"] 2 R_over := by
  refine pf_of (T := T) M.f_over sc_over (fun ks k h => by cases h; rfl) (fun _ _ _ _ _ _ us hl => match us, hl with | [_, _], _ => rfl) fun f cdv A outer s H hr gd => ⟨_,
    (pss_one (ps_ret (pe_gf G_ratio hr (by decide) gd (by rfl) (pa_cons (pe_op op_mulW (pe_ix (ixT (K := K) rfl) (pv 0) pe_int (fun _ _ => rfl)) (pe_ix (ixT (K := K) rfl) (pv 1) pe_int (fun _ _ => rfl))) (pa_cons (pe_op op_mulW (pe_ix (ixT (K := K) rfl) (pv 0) pe_int (fun _ _ => rfl)) (pe_ix (ixT (K := K) rfl) (pv 1) pe_int (fun _ _ => rfl))) pa_nil))))), fun ks k h => ?_⟩
  cases h with
  | mk p q hp hq h0 =>
    refine st_ret (ev_call (av_cons (ev_mulB (ev_ixT (ev_var rfl rfl) ev_int rfl) (ev_ixT (ev_var rfl rfl) ev_int rfl) (B4.n hp) (B4.d hq)) (av_cons (ev_mulB (ev_ixT (ev_var rfl rfl) ev_int rfl) (ev_ixT (ev_var rfl rfl) ev_int rfl) (B4.d hp) (B4.n hq)) av_nil)) (R_ratio.mk _ _ (Int.mul_ne_zero (den_ne p) (num_ne h0)) (big_mul (B4.d hp) (B4.n hq)))) ?_
    rw [over_eq]
def sg (q : Rat) : Int := (if decide (0 < q) then 1 else 0) - (if decide (q < 0) then 1 else 0)
inductive R_sign_of : List Kd → Kd → Prop
  | mk (q : Rat) : R_sign_of [.im (fr q)] (.im (.int (sg q)))
theorem g_sign_of (M : Mods K mg)  : PFn P w K mg base T "sign_of" s_sign_of ["one"] 1 R_sign_of := by
  refine pf_of (T := T) M.f_sign_of sc_sign_of (fun ks k h => by cases h; rfl) (fun _ _ _ _ _ _ us hl => match us, hl with | [_], _ => rfl) fun f cdv A outer s H hr gd => ⟨_,
    (pss_one (ps_ret (pe_op op_subB (pe_cmpR op_gt (pe_ix (ixT (K := K) rfl) (pv 0) pe_int (fun _ _ => rfl)) pe_int (nomark _)) (pe_cmpR op_lt (pe_ix (ixT (K := K) rfl) (pv 0) pe_int (fun _ _ => rfl)) pe_int (nomark _))))), fun ks k h => ?_⟩
  cases h with
  | mk q =>
    refine st_ret (ev_subB (ev_opB0 (ev_ixT (ev_var rfl rfl) ev_int rfl) ev_int) (ev_opB0 (ev_ixT (ev_var rfl rfl) ev_int rfl) ev_int)) ?_
    unfold sg
    rw [← num_pos, ← num_neg]
inductive R_is_less : List Kd → Kd → Prop
  | mk (p q : Rat) (hp : Small p) (hq : Small q) : R_is_less [.im (fr p), .im (fr q)] (.im (.bl (decide (p < q))))
theorem g_is_less (M : Mods K mg)  : PFn P w K mg base T "is_less" s_is_less ["one", "two"] 1 R_is_less := by
  refine pf_of (T := T) M.f_is_less sc_is_less (fun ks k h => by cases h; rfl) (fun _ _ _ _ _ _ us hl => match us, hl with | [_, _], _ => rfl) fun f cdv A outer s H hr gd => ⟨_,
    (pss_one (ps_ret (pe_cmpR op_lt (pe_op op_mulW (pe_ix (ixT (K := K) rfl) (pv 0) pe_int (fun _ _ => rfl)) (pe_ix (ixT (K := K) rfl) (pv 1) pe_int (fun _ _ => rfl))) (pe_op op_mulW (pe_ix (ixT (K := K) rfl) (pv 1) pe_int (fun _ _ => rfl)) (pe_ix (ixT (K := K) rfl) (pv 0) pe_int (fun _ _ => rfl))) (nomark _)))), fun ks k h => ?_⟩
  cases h with
  | mk p q hp hq =>
    refine st_ret (ev_opB0 (ev_mulB (ev_ixT (ev_var rfl rfl) ev_int rfl) (ev_ixT (ev_var rfl rfl) ev_int rfl) (B4.n hp) (B4.d hq)) (ev_mulB (ev_ixT (ev_var rfl rfl) ev_int rfl) (ev_ixT (ev_var rfl rfl) ev_int rfl) (B4.n hq) (B4.d hp))) ?_
    rw [← less_eq]
theorem list_fr {l : List Rat} {i : Nat} (h : i < l.length) : (l.map fr)[i]? = some (fr l[i]) := by rw [List.getElem?_map, List.getElem?_eq_getElem h]; rfl
/-- the sum of the first ones -/
def sumT (l : List Rat) (i : Nat) : Rat := sum (l.take i)
theorem sumT_succ {l : List Rat} {i : Nat} (h : i < l.length) : sumT l (i + 1) = sumT l i + l[i] := by
  unfold sumT HnQ.sum
  rw [List.take_add_one, List.getElem?_eq_getElem h, List.foldl_append]
  rfl
inductive R_total : List Kd → Kd → Prop
  | mk (l : List Rat) (h : ∀ x ∈ l, Small x) (hs : ∀ i, i ≤ l.length → Small (sumT l i)) : R_total [.ls (l.map fr)] (.im (fr (sum l)))
theorem g_total (M : Mods K mg) (G_plus : PFn P w K mg base T "plus" s_plus ["one", "two"] 2 R_plus) : PFn P w K mg base T "total" s_total ["fractions"] 3 R_total := by
  obtain ⟨aZERO, mZERO, vZERO⟩ := M.ZERO
  refine pf_of (T := T) M.f_total sc_total (fun ks k h => by cases h; rfl) (fun _ _ _ _ _ _ us hl => match us, hl with | [_], _ => rfl) fun f cdv A outer s H hr gd => ⟨_,
    (pss_cons (ps_set (i := 1) sc_total.nd rfl (.inl rfl) (pe_glob (v := .ref _) (by rfl) mZERO rfl))
      (pss_cons (ps_for PassesOwn.never rfl (pi_list (pv 0)) (pg_name (i := 2) sc_total.nd rfl (.inl rfl))
      (pss_one (ps_set (i := 1) sc_total.nd rfl (.inl rfl) (pe_gf G_plus hr (by decide) gd (by rfl) (pa_cons (pv 1) (pa_cons (pv 2) pa_nil))))))
      (pss_one (ps_ret (pv 1))))), fun ks k h => ?_⟩
  cases h with
  | mk l h hs =>
    refine st_seq (Γ1 := [.par (.ls (l.map fr)), .im (fr (sumT l 0)), .none]) (st_set (ev_gl vZERO)) ?_
    refine st_seqP (N1 := fun Γ => ∃ s, Γ = [.par (.ls (l.map fr)), .im (fr (sumT l l.length)), s]) (st_forP (it_lst (ev_var rfl rfl) (dd := fun i => fr (l.getD i 0)) fun i hi => ?_) (w := false) (fun z => nomatch z) (fun i Γ => ∃ s, Γ = [.par (.ls (l.map fr)), .im (fr (sumT l i)), s]) ⟨_, rfl⟩ ?_ ?_).weak ?_
    · rw [List.length_map] at hi
      rw [list_fr hi, List.getD_eq_getElem?_getD, List.getElem?_eq_getElem hi]
      rfl
    · rintro i Γ hi ⟨s, rfl⟩
      rw [List.length_map] at hi
      refine (st_set (ev_call (av_cons ((ev_var rfl rfl)) (av_cons ((ev_var rfl rfl)) av_nil)) (R_plus.mk _ _ (hs i (by omega)) (h _ ?_)))).to (fun Γ e => ⟨.im (fr (l.getD i 0)), e.trans ?_⟩) (fun _ z => z)
      · rw [List.getD_eq_getElem?_getD, List.getElem?_eq_getElem hi]
        exact List.getElem_mem hi
      · rw [sumT_succ hi, List.getD_eq_getElem?_getD, List.getElem?_eq_getElem hi]
        rfl
    · rintro Γ ⟨s, rfl⟩
      rw [List.length_map]
      exact ⟨s, rfl⟩
    · rintro Γ ⟨s, rfl⟩
      refine st_ret (ev_var rfl rfl) ?_
      unfold sumT
      rw [List.take_length]
/-- the least of the first ones -/
def leastT (l : List Rat) (i : Nat) : Rat := leastL (l.take (i + 1))
theorem leastT_succ {l : List Rat} {i : Nat} (h : i + 1 < l.length) : leastT l (i + 1) = if l[i + 1] < leastT l i then l[i + 1] else leastT l i := by
  unfold leastT
  cases l with
  | nil => cases h
  | cons x xs =>
    have h' : i < xs.length := by simpa using h
    show (List.foldl _ x (xs.take (i + 1))) = if (x :: xs)[i + 1] < List.foldl _ x (xs.take i) then _ else List.foldl _ x (xs.take i)
    rw [List.take_add_one, List.getElem?_eq_getElem h', List.foldl_append]
    rfl
theorem leastT_mem {l : List Rat} {i : Nat} (h : 0 < l.length) : leastT l i ∈ l := by
  have hne : l.take (i + 1) ≠ [] := by
    intro e
    have := congrArg List.length e
    rw [List.length_take] at this
    have : min (i + 1) l.length = 0 := this
    omega
  exact List.mem_of_mem_take (leastL_mem hne)
inductive R_least_of : List Kd → Kd → Prop
  | mk (l : List Rat) (h : ∀ x ∈ l, Small x) (hne : l ≠ []) : R_least_of [.ls (l.map fr)] (.im (fr (leastL l)))
theorem g_least_of (M : Mods K mg) (G_is_less : PFn P w K mg base T "is_less" s_is_less ["one", "two"] 1 R_is_less) : PFn P w K mg base T "least_of" s_least_of ["fractions"] 2 R_least_of := by
  refine pf_of (T := T) M.f_least_of sc_least_of (fun ks k h => by cases h; rfl) (fun _ _ _ _ _ _ us hl => match us, hl with | [_], _ => rfl) fun f cdv A outer s H hr gd => ⟨_,
    (pss_cons (ps_set (i := 1) sc_least_of.nd rfl (.inl rfl) (pe_ix (ixL (K := K) rfl) (pv 0) pe_int (fun _ _ => rfl)))
      (pss_cons (ps_for PassesOwn.never rfl (pi_list (pe_slice sl_list (pv 0) (po_some pe_int) po_none)) (pg_name (i := 2) sc_least_of.nd rfl (.inl rfl))
      (pss_one (ps_set (i := 1) sc_least_of.nd rfl (.inl rfl) (pe_ifExp (pt_val (pe_gf G_is_less hr (by decide) gd (by rfl) (pa_cons (pv 2) (pa_cons (pv 1) pa_nil)))) (pv 2) (pv 1)))))
      (pss_one (ps_ret (pv 1))))), fun ks k h => ?_⟩
  cases h with
  | mk l h hne =>
    have hl : 0 < l.length := List.length_pos_iff.mpr hne
    have at_ : ∀ i, i < l.length → l.getD i 0 ∈ l := fun i hi => by
      rw [List.getD_eq_getElem?_getD, List.getElem?_eq_getElem hi]
      exact List.getElem_mem hi
    refine st_seq (Γ1 := [.par (.ls (l.map fr)), .im (fr (leastT l 0)), .none]) (st_set ((ev_ixL (ev_var rfl rfl) ev_int (d := fr (l.getD 0 0)) ?_).as (k' := .im (fr (leastT l 0))) ?_)) ?_
    · match l, hl with
      | x :: xs, _ => exact atI_nat (j := 0) rfl
    · match l, hl with
      | x :: xs, _ => rfl
    refine st_seqP (N1 := fun Γ => ∃ s, Γ = [.par (.ls (l.map fr)), .im (fr (leastT l (l.length - 1))), s]) (st_forP (it_lst (ev_ls (ev_slFrom (n := 1) (ev_var rfl rfl) ev_int)) (dd := fun i => fr (l.getD (i + 1) 0)) fun i hi => ?_) (w := false) (fun z => nomatch z) (fun i Γ => ∃ s, Γ = [.par (.ls (l.map fr)), .im (fr (leastT l i)), s]) ⟨_, rfl⟩ ?_ ?_).weak ?_
    · rw [List.length_drop, List.length_map] at hi
      have hi' : i + 1 < l.length := by omega
      rw [List.getElem?_drop, Nat.add_comm 1 i, list_fr hi', List.getD_eq_getElem?_getD, List.getElem?_eq_getElem hi']
      rfl
    · rintro i Γ hi ⟨s, rfl⟩
      rw [List.length_drop, List.length_map] at hi
      have hi' : i + 1 < l.length := by omega
      refine (st_set (ev_ifD (tv_test (ev_call (av_cons ((ev_var rfl rfl)) (av_cons ((ev_var rfl rfl)) av_nil)) (R_is_less.mk _ _ (h _ (at_ _ hi')) (h _ (leastT_mem hl))))) (fun _ => (ev_var rfl rfl)) (fun _ => (ev_var rfl rfl)))).to (fun Γ e => ⟨.im (fr (l.getD (i + 1) 0)), e.trans ?_⟩) (fun _ z => z)
      rw [leastT_succ hi', List.getD_eq_getElem?_getD, List.getElem?_eq_getElem hi']
      simp only [Option.getD_some, decide_eq_true_eq]
      split <;> rfl
    · rintro Γ ⟨s, rfl⟩
      rw [List.length_drop, List.length_map]
      exact ⟨s, rfl⟩
    · rintro Γ ⟨s, rfl⟩
      refine st_ret (ev_var rfl rfl) ?_
      unfold leastT
      rw [List.take_of_length_le (by omega)]
end
end Hn
end

section
set_option Elab.async false
set_option linter.all false
set_option maxRecDepth 100000
set_option maxHeartbeats 1000000
namespace Hn
open PySem PySem.Spec PyProof.Rows L2 NdefX LamX HnQ
section
variable {P : Program} {w : World} {K : PySem.W.Frag} {mg : Str → Option Value} {base : Heap} {T : List NTab}
section
variable {mo : Option Addr} {te ta tb tl : TE} {tt : TT} {tg : TA} {Γ : List Slot} {ds : List D} {n : Nat}
theorem ev_slFromT (h : Ev K T mo ta Γ (.im (.tup ds))) (hl : Ev K T mo tl Γ (.im (.int ((n : Nat) : Int)))) (h0 : 0 < n) (h1 : 0 < ds.length) : Ev K T mo (tSl (rSlT K) ta (tPart tl) tNoPart) Γ (.im (.tup (ds.drop n))) := fun H0 σ H Q E q =>
  h H0 σ H _ E fun x H1 k1 p1 e1 r1 => hl H0 σ H1 _ (E.on e1) fun y H2 k2 p2 e2 r2 => by
    subst p1 p2
    cases r2
    cases r1 with
    | @tup a xs _ hs ha =>
      have hlen := ha.length
      refine ⟨(n : Int), rfl, a, xs, rfl, e2.tup.sq hs, fun z => ?_, fun p hp => ?_⟩
      · have z := z.1
        rw [HT.sIx_nat] at z
        omega
      · have e3 := e1.trans e2
        refine q _ _ _ rfl (e3.trans (LeM.new hp)) (.tup (xs := xs.drop n) (.inl (.inl ?_)) (((ha.drop n).mono e2.tup).mono (LeM.new (T := T) (mo := mo) hp).tup))
        rw [upd_same, cutV_from]
/-- all([..]) that holds -/
theorem ev_allT {b : Nat → Bool} (h : Ev K T mo ta Γ (.fl ((List.range n).map fun i => .bl (b i)))) (hb : ∀ i, i < n → b i = true) : Ev K T mo (tCB (rAll K) (tCons ta tNil)) Γ (.im (.bl true)) := by
  have e : ((List.range n).map fun i => D.bl (b i)) = ((List.range n).map b).map D.bl := by rw [List.map_map]; rfl
  rw [e] at h
  refine (ev_all (ev_ls h)).as ?_
  have e2 : ((List.range n).map b).all id = true := by
    rw [List.all_eq_true]
    intro x hx
    obtain ⟨i, hi, rfl⟩ := List.mem_map.mp hx
    exact hb i (List.mem_range.mp hi)
  rw [e2]
theorem given_map {α β : Type} (g : α → β) (n : Nat) (f : Nat → Bool) (d : Nat → α) : given n f (fun i => g (d i)) = (given n f d).map g := by
  unfold given
  rw [List.map_map]
  rfl
theorem given_mem {α : Type} {n : Nat} {f : Nat → Bool} {d : Nat → α} {x : α} (h : x ∈ given n f d) : ∃ i, i < n ∧ f i = true ∧ x = d i := by
  obtain ⟨i, hi, rfl⟩ := List.mem_map.mp h
  rw [List.mem_filter] at hi
  exact ⟨i, List.mem_range.mp hi.1, hi.2, rfl⟩
theorem sum_given (f : Nat → Bool) (d : Nat → Rat) : ∀ n, HnQ.sum (given n f d) = sm n fun i => if f i = true then d i else 0
  | 0 => rfl
  | n + 1 => by
    show _ = sm n _ + _
    rw [← sum_given f d n]
    cases h : f n with
    | true =>
      rw [given_yes h]
      show _ = HnQ.sum (given n f d) + if f n = true then d n else 0
      rw [h, if_pos rfl]
      unfold HnQ.sum
      rw [List.foldl_append]
      rfl
    | false =>
      rw [given_no h]
      show _ = HnQ.sum (given n f d) + if f n = true then d n else 0
      rw [h, if_neg (by decide)]
      exact (Rat.add_zero _).symm
/-- what total asks -/
theorem total_mk {a b : Nat} {l : List Rat} (h : ∀ x ∈ l, Bd a b x) (hl : l.length ≤ 4) (ha : a + 4 * b + 5 ≤ 4000 := by decide) : R_total [.ls (l.map fr)] (.im (fr (HnQ.sum l))) :=
  .mk l (fun x hx => (h x hx).to (by omega) (by omega)) fun i hi => sum_small (fun x hx => h x (List.mem_of_mem_take hx)) (by rw [List.length_take]; omega) ha
end
abbrev rowF (n : Nat) (f : Nat → Rat) : D := rowD n fun i => fr (f i)
abbrev netD (N : Net) : D := .tup [rowD N.n fun i => rowF N.n (N.W i), rowF N.n N.M]
abbrev stD (n s : Nat) : D := rowD n fun i => .int ((bit s i : Nat) : Int)
theorem row_len {n : Nat} {f : Nat → D} : ((((List.range n).map f).length : Nat) : Int) = n := by simp
inductive R_is_row : List Kd → Kd → Prop
  | mk (n : Nat) (f : Nat → Rat) (hn : n ≤ 1000) : R_is_row [.im (rowF n f), .im (.int ((n : Nat) : Int))] (.im (.bl true))
theorem g_is_row (M : Mods K mg) (G_is_ratio : PFn P w K mg base T "is_ratio" s_is_ratio ["value"] 2 R_is_ratio) (G_is_tuple_of : PFn P w K mg base T "is_tuple_of" s_is_tuple_of ["value", "many"] 1 R_is_tuple_of) : PFn P w K mg base T "is_row" s_is_row ["value", "many"] 3 R_is_row := by
  refine pf_of (T := T) M.f_is_row sc_is_row (fun ks k h => by cases h; rfl) (fun _ _ _ _ _ _ us hl => match us, hl with | [_, _], _ => rfl) fun f cdv A outer s H hr gd => ⟨_,
    (pss_one (ps_ret (pe_and (pe_gf G_is_tuple_of hr (by decide) gd (by rfl) (pa_cons (pv 0) (pa_cons (pv 1) pa_nil))) (pe_one (pe_callB (allK (K := K) rfl rfl) (by rfl) M.n_all PyProof.Rows.boot_all (pa_cons (pe_lc (own := [("each", 2)]) (g := gName 2) (tt := tYes) rfl sc_is_row.nd (pi_tup (pv 0)) (blkOk_by (N := nm_is_row) (sc := defScope s_is_row) (by decide +kernel)) (fun _ _ _ _ _ => (pg_name (i := 2) sc_is_row.nd rfl (.inl rfl))) (fun _ _ _ _ _ => pts_nil) (fun _ _ _ _ _ => (pe_gf G_is_ratio hr (by decide) gd (by rfl) (pa_cons (pv 2) pa_nil)))) pa_nil)))))), fun ks k h => ?_⟩
  cases h with
  | mk n f hn =>
    have e : ((List.range n).map fun i => fr (f i)).length = n := len_row
    refine st_ret ((ev_andV (ev_call (av_cons ((ev_var rfl rfl)) (av_cons ((ev_var rfl rfl)) av_nil)) (R_is_tuple_of.mk _ _)) fun _ => ev_allT (b := fun _ => true) (ev_lcA (it_tup (ev_var rfl rfl) (dd := fun i => fr (f i)) fun i hi => get_row hi) (fun i hi => (ev_call (av_cons ((ev_var rfl rfl)) av_nil) (R_is_ratio.mk _))) (by rw [e]; omega) (by decide)) fun _ _ => rfl).as ?_) rfl
    rw [row_len, decide_eq_true rfl]
    rfl
inductive R_is_net_by : List Kd → Kd → Prop
  | mk (N : Net) (h : NetOk N) : R_is_net_by [.im (netD N)] (.im (.bl true))
theorem g_is_net_by (M : Mods K mg) (G_is_tuple_of : PFn P w K mg base T "is_tuple_of" s_is_tuple_of ["value", "many"] 1 R_is_tuple_of) (G_is_row : PFn P w K mg base T "is_row" s_is_row ["value", "many"] 3 R_is_row) : PFn P w K mg base T "is_net_by" s_is_net_by ["value"] 4 R_is_net_by := by
  obtain ⟨tk8, mMOST_CELLS⟩ := M.MOST_CELLS
  obtain ⟨aZERO, mZERO, vZERO⟩ := M.ZERO
  refine pf_of (T := T) M.f_is_net_by sc_is_net_by (fun ks k h => by cases h; rfl) (fun _ _ _ _ _ _ us hl => match us, hl with | [_], _ => rfl) fun f cdv A outer s H hr gd => ⟨_,
    (pss_cons (ps_if (PW.pt (pw_or (pt_not (pt_val (pe_gf G_is_tuple_of hr (by decide) gd (by rfl) (pa_cons (pv 0) (pa_cons pe_int pa_nil))))) (pw_or (pt_not (pt_val (pe_callB (isiK (K := K) rfl) (by rfl) M.n_isinstance PyProof.Rows.boot_isinstance (pa_cons (pe_ix (ixT (K := K) rfl) (pv 0) pe_int (fun _ _ => rfl)) (pa_cons (pe_bltn (v := .ty "tuple") (by rfl) M.n_tuple (by decide +kernel) rfl) pa_nil))))) (pw_or1 (pt_not (pt_chain op_le op_le pe_int (pe_callB (lenK (K := K) rfl) (by rfl) M.n_len PySem.boot_len (pa_cons (pe_ix (ixT (K := K) rfl) (pv 0) pe_int (fun _ _ => rfl)) pa_nil)) (pe_glob (v := .int 8) (by rfl) mMOST_CELLS ⟨_, rfl⟩))))))) (pss_one (ps_ret pe_bl)) pss_nil)
      (pss_cons (ps_set (i := 1) sc_is_net_by.nd rfl (.inr rfl) (pe_callB (lenK (K := K) rfl) (by rfl) M.n_len PySem.boot_len (pa_cons (pe_ix (ixT (K := K) rfl) (pv 0) pe_int (fun _ _ => rfl)) pa_nil)))
      (pss_cons (ps_if (PW.pt (pw_or (pt_not (pt_val (pe_callB (allK (K := K) rfl rfl) (by rfl) M.n_all PyProof.Rows.boot_all (pa_cons (pe_lc (own := [("row", 3)]) (g := gName 3) (tt := tYes) rfl sc_is_net_by.nd (pi_tup (pe_ix (ixT (K := K) rfl) (pv 0) pe_int (fun _ _ => rfl))) (blkOk_by (N := nm_is_net_by) (sc := defScope s_is_net_by) (by decide +kernel)) (fun _ _ _ _ _ => (pg_name (i := 3) sc_is_net_by.nd rfl (.inl rfl))) (fun _ _ _ _ _ => pts_nil) (fun _ _ _ _ _ => (pe_gf G_is_row hr (by decide) gd (by rfl) (pa_cons (pv 3) (pa_cons (pv 1) pa_nil))))) pa_nil)))) (pw_or1 (pt_not (pt_val (pe_gf G_is_row hr (by decide) gd (by rfl) (pa_cons (pe_ix (ixT (K := K) rfl) (pv 0) pe_int (fun _ _ => rfl)) (pa_cons (pv 1) pa_nil)))))))) (pss_one (ps_ret pe_bl)) pss_nil)
      (pss_one (ps_ret (pe_callB (allK (K := K) rfl rfl) (by rfl) M.n_all PyProof.Rows.boot_all (pa_cons (pe_lc (own := [("cell", 2)]) (g := gName 2) (tt := tYes) rfl sc_is_net_by.nd (pi_range1 (by rfl) M.n_range (pa_cons (pv 1) pa_nil)) (blkOk_by (N := nm_is_net_by) (sc := defScope s_is_net_by) (by decide +kernel)) (fun _ _ _ _ _ => (pg_name (i := 2) sc_is_net_by.nd rfl (.inl rfl))) (fun _ _ _ _ _ => pts_nil) (fun _ _ _ _ _ => (pe_cmpR (eqDK (K := K) rfl hr.units) (pe_ix (ixT (K := K) rfl) (pe_ix (ixT (K := K) rfl) (pe_ix (ixT (K := K) rfl) (pv 0) pe_int (fun _ _ => rfl)) (pv 2) (fun _ _ => rfl)) (pv 2) (fun _ _ => rfl)) (pe_glob (v := .ref _) (by rfl) mZERO rfl) (nomark _)))) pa_nil))))))), fun ks k h => ?_⟩
  cases h with
  | mk N h =>
    have e : ∀ {f : Nat → D}, ((List.range N.n).map f).length = N.n := len_row
    have hp := h.pos
    have hl := h.le
    refine st_seq (Γ1 := [.im (netD N), .none, .none, .none]) (st_no ((tv_or (tv_not (tv_B (ev_call (av_cons ((ev_var rfl rfl)) (av_cons (ev_int) av_nil)) (R_is_tuple_of.mk _ _)))) fun _ => tv_or (tv_not (tv_B (ev_isi (av_cons (ev_ixT (ev_var rfl rfl) ev_int rfl) (av_cons (ev_ty) av_nil)) rfl))) fun _ => tv_not (tv_test (ev_chainI ev_int (ev_lenT (ev_ixT (ev_var rfl rfl) ev_int rfl)) (ev_gl fun _ => .int 8)))).as ?_) st_next) ?_
    · rw [row_len]
      have h1 : decide ((1 : Int) ≤ N.n) = true := decide_eq_true (by omega)
      have h2 : decide ((N.n : Int) ≤ 8) = true := decide_eq_true (by omega)
      simp [h1, h2]
    refine st_seq (Γ1 := [.im (netD N), .im (.int ((N.n : Nat) : Int)), .none, .none]) (st_set ((ev_lenT (ev_ixT (ev_var rfl rfl) ev_int rfl)).as (k' := .im (.int ((N.n : Nat) : Int))) (by rw [row_len]))) ?_
    refine st_seq (Γ1 := [.im (netD N), .im (.int ((N.n : Nat) : Int)), .none, .none]) (st_no ((tv_or (tv_not (tv_B (ev_allT (b := fun _ => true) (ev_lcA (it_tup (ev_ixT (ev_var rfl rfl) ev_int rfl) (dd := fun i => rowF N.n (N.W i)) fun i hi => get_row hi) (fun i hi => (ev_call (av_cons ((ev_var rfl rfl)) (av_cons ((ev_var rfl rfl)) av_nil)) (R_is_row.mk _ _ (by omega)))) (by rw [e]; omega) (by decide)) fun _ _ => rfl))) fun _ => tv_not (tv_B (ev_call (av_cons (ev_ixT (ev_var rfl rfl) ev_int rfl) (av_cons ((ev_var rfl rfl)) av_nil)) (R_is_row.mk _ _ (by omega))))).as rfl) st_next) ?_
    refine st_ret (ev_allT (b := fun i => decide (N.W i i = 0)) (ev_lcA (it_rngN (av_cons ((ev_var rfl rfl)) av_nil) (by omega)) (fun i hi => ev_eqF (ev_ixT (ev_ixT (ev_ixT (ev_var rfl rfl) ev_int rfl) (ev_var rfl rfl) (at_row hi)) (ev_var rfl rfl) (at_row hi)) (ev_gl vZERO)) (by omega) (by decide)) fun i _ => decide_eq_true (h.d i)) rfl
inductive R_many_cells : List Kd → Kd → Prop
  | mk (N : Net) : R_many_cells [.im (netD N)] (.im (.int ((N.n : Nat) : Int)))
theorem g_many_cells (M : Mods K mg)  : PFn P w K mg base T "many_cells" s_many_cells ["net"] 1 R_many_cells := by
  refine pf_of (T := T) M.f_many_cells sc_many_cells (fun ks k h => by cases h; rfl) (fun _ _ _ _ _ _ us hl => match us, hl with | [_], _ => rfl) fun f cdv A outer s H hr gd => ⟨_,
    (pss_one (ps_ret (pe_callB (lenK (K := K) rfl) (by rfl) M.n_len PySem.boot_len (pa_cons (pe_ix (ixT (K := K) rfl) (pv 0) pe_int (fun _ _ => rfl)) pa_nil)))), fun ks k h => ?_⟩
  cases h with
  | mk N =>
    refine st_ret (ev_lenT (ev_ixT (ev_var rfl rfl) ev_int rfl)) ?_
    rw [row_len]
inductive R_is_state_by : List Kd → Kd → Prop
  | mk (N : Net) (s : Nat) (h : N.n ≤ 4) : R_is_state_by [.im (netD N), .im (stD N.n s)] (.im (.bl true))
theorem g_is_state_by (M : Mods K mg) (G_is_between : PFn P w K mg base T "is_between" s_is_between ["value", "low", "high"] 2 R_is_between) (G_is_tuple_of : PFn P w K mg base T "is_tuple_of" s_is_tuple_of ["value", "many"] 1 R_is_tuple_of) (G_many_cells : PFn P w K mg base T "many_cells" s_many_cells ["net"] 1 R_many_cells) : PFn P w K mg base T "is_state_by" s_is_state_by ["net", "value"] 3 R_is_state_by := by
  refine pf_of (T := T) M.f_is_state_by sc_is_state_by (fun ks k h => by cases h; rfl) (fun _ _ _ _ _ _ us hl => match us, hl with | [_, _], _ => rfl) fun f cdv A outer s H hr gd => ⟨_,
    (pss_one (ps_ret (pe_and (pe_gf G_is_tuple_of hr (by decide) gd (by rfl) (pa_cons (pv 1) (pa_cons (pe_gf G_many_cells hr (by decide) gd (by rfl) (pa_cons (pv 0) pa_nil)) pa_nil))) (pe_one (pe_callB (allK (K := K) rfl rfl) (by rfl) M.n_all PyProof.Rows.boot_all (pa_cons (pe_lc (own := [("each", 2)]) (g := gName 2) (tt := tYes) rfl sc_is_state_by.nd (pi_tup (pv 1)) (blkOk_by (N := nm_is_state_by) (sc := defScope s_is_state_by) (by decide +kernel)) (fun _ _ _ _ _ => (pg_name (i := 2) sc_is_state_by.nd rfl (.inl rfl))) (fun _ _ _ _ _ => pts_nil) (fun _ _ _ _ _ => (pe_gf G_is_between hr (by decide) gd (by rfl) (pa_cons (pv 2) (pa_cons pe_int (pa_cons pe_int pa_nil)))))) pa_nil)))))), fun ks k h => ?_⟩
  cases h with
  | mk N s hn =>
    have e : ∀ {f : Nat → D}, ((List.range N.n).map f).length = N.n := len_row
    refine st_ret ((ev_andV (ev_call (av_cons ((ev_var rfl rfl)) (av_cons ((ev_call (av_cons ((ev_var rfl rfl)) av_nil) (R_many_cells.mk _))) av_nil)) (R_is_tuple_of.mk _ _)) fun _ => ev_allT (ev_lcA (it_tup (ev_var rfl rfl) (dd := fun i => .int ((bit s i : Nat) : Int)) fun i hi => get_row hi) (fun i hi => (ev_call (av_cons ((ev_var rfl rfl)) (av_cons (ev_int) (av_cons (ev_int) av_nil))) (R_is_between.mk _ _ _))) (by rw [e]; omega) (by decide)) fun i _ => ?_).as ?_) rfl
    · have := bit_le s i
      have h1 : decide ((0 : Int) ≤ (bit s i : Nat)) = true := decide_eq_true (by omega)
      have h2 : decide (((bit s i : Nat) : Int) ≤ 1) = true := decide_eq_true (by omega)
      rw [h1, h2]
      rfl
    · rw [row_len, decide_eq_true rfl]
      rfl
theorem sum_bits (s : Nat) : ∀ n, ((List.range n).map fun i => ((bit s i * 2 ^ i : Nat) : Int)).sum = ((nm n (fun i => decide (bit s i = 1)) : Nat) : Int)
  | 0 => rfl
  | n + 1 => by
    rw [List.range_succ, List.map_append, List.sum_append, sum_bits s n]
    show _ + [((bit s n * 2 ^ n : Nat) : Int)].sum = ((nm n _ + (if decide (bit s n = 1) = true then 2 ^ n else 0) : Nat) : Int)
    have l := bit_le s n
    by_cases h : bit s n = 1
    · rw [if_pos (by simpa using h), h]
      simp
    · rw [if_neg (by simpa using h), show bit s n = 0 by omega]
      simp
inductive R_number_by : List Kd → Kd → Prop
  | mk (n s : Nat) (hn : n ≤ 4) (hs : s < 2 ^ n) : R_number_by [.im (stD n s)] (.im (.int ((s : Nat) : Int)))
theorem g_number_by (M : Mods K mg)  : PFn P w K mg base T "number_by" s_number_by ["state"] 1 R_number_by := by
  refine pf_of (T := T) M.f_number_by sc_number_by (fun ks k h => by cases h; rfl) (fun _ _ _ _ _ _ us hl => match us, hl with | [_], _ => rfl) fun f cdv A outer s H hr gd => ⟨_,
    (pss_one (ps_ret (pe_callB (sumK (K := K) rfl rfl) (by rfl) M.n_sum PyProof.Rows.boot_sum (pa_cons (pe_lc (own := [("cell", 1), ("each", 2)]) (g := gTup K 2 (gCons (gName 1) (gCons (gName 2) gNil))) (tt := tYes) rfl sc_number_by.nd (pi_ent (by rfl) M.n_enumerate (pa_cons (pv 0) pa_nil)) (blkOk_by (N := nm_number_by) (sc := defScope s_number_by) (by decide +kernel)) (fun _ _ _ _ _ => (pg_tup rfl (pgs_cons (pg_name (i := 1) sc_number_by.nd rfl (.inl rfl)) (pgs_cons (pg_name (i := 2) sc_number_by.nd rfl (.inl rfl)) pgs_nil)))) (fun _ _ _ _ _ => pts_nil) (fun _ _ _ _ _ => (pe_op op_shl (pv 2) (pv 1)))) pa_nil)))), fun ks k h => ?_⟩
  cases h with
  | mk n s hn hs =>
    have e : ∀ {f : Nat → D}, ((List.range n).map f).length = n := len_row
    have q := sum_bits s n
    rw [nm_bit hs] at q
    rw [← q]
    refine st_ret (ev_sum (ev_ls ((ev_lcA (it_ent (av_cons ((ev_var rfl rfl)) av_nil) (dd := fun i => .int ((bit s i : Nat) : Int)) fun i hi => get_row hi) (fun i hi => ev_shlN (ev_var rfl rfl) (ev_var rfl rfl) ?_ ?_) (by rw [e]; omega) (by decide)).as ?_))) rfl
    · rw [e] at hi
      omega
    · have := bit_le s i
      omega
    · rw [e, List.map_map]
      rfl
inductive R_state_by : List Kd → Kd → Prop
  | mk (n s : Nat) (hn : n ≤ 4) : R_state_by [.im (.int ((n : Nat) : Int)), .im (.int ((s : Nat) : Int))] (.im (stD n s))
theorem g_state_by (M : Mods K mg)  : PFn P w K mg base T "state_by" s_state_by ["many", "number"] 1 R_state_by := by
  refine pf_of (T := T) M.f_state_by sc_state_by (fun ks k h => by cases h; rfl) (fun _ _ _ _ _ _ us hl => match us, hl with | [_, _], _ => rfl) fun f cdv A outer s H hr gd => ⟨_,
    (pss_one (ps_ret (pe_callTy (tupK (K := K) rfl) (by rfl) M.n_tuple PyProof.Rows.boot_tuple (pa_cons (pe_lc (own := [("cell", 2)]) (g := gName 2) (tt := tYes) rfl sc_state_by.nd (pi_range1 (by rfl) M.n_range (pa_cons (pv 0) pa_nil)) (blkOk_by (N := nm_state_by) (sc := defScope s_state_by) (by decide +kernel)) (fun _ _ _ _ _ => (pg_name (i := 2) sc_state_by.nd rfl (.inl rfl))) (fun _ _ _ _ _ => pts_nil) (fun _ _ _ _ _ => (pe_op op_and (pe_op op_shr (pv 1) (pv 2)) pe_int))) pa_nil)))), fun ks k h => ?_⟩
  cases h with
  | mk n s hn =>
    exact st_ret (ev_tupL (ev_ls (ev_lcA (it_rngN (av_cons ((ev_var rfl rfl)) av_nil) (by omega)) (fun i hi => ev_and1 (ev_shrN (ev_var rfl rfl) (ev_var rfl rfl)) ev_int) (by omega) (by decide)))) rfl
inductive R_all_states : List Kd → Kd → Prop
  | mk (N : Net) (hn : N.n ≤ 4) : R_all_states [.im (netD N)] (.fl ((List.range (2 ^ N.n)).map (stD N.n)))
theorem pow16 {n : Nat} (h : n ≤ 4) : 2 ^ n ≤ 16 := Nat.pow_le_pow_right (by decide) h
theorem g_all_states (M : Mods K mg) (G_many_cells : PFn P w K mg base T "many_cells" s_many_cells ["net"] 1 R_many_cells) (G_state_by : PFn P w K mg base T "state_by" s_state_by ["many", "number"] 1 R_state_by) : PFn P w K mg base T "all_states" s_all_states ["net"] 2 R_all_states := by
  refine pf_of (T := T) M.f_all_states sc_all_states (fun ks k h => by cases h; rfl) (fun _ _ _ _ _ _ us hl => match us, hl with | [_], _ => rfl) fun f cdv A outer s H hr gd => ⟨_,
    (pss_one (ps_ret (pe_lc (own := [("number", 1)]) (g := gName 1) (tt := tYes) rfl sc_all_states.nd (pi_range1 (by rfl) M.n_range (pa_cons (pe_op op_shl pe_int (pe_gf G_many_cells hr (by decide) gd (by rfl) (pa_cons (pv 0) pa_nil))) pa_nil)) (blkOk_by (N := nm_all_states) (sc := defScope s_all_states) (by decide +kernel)) (fun _ _ _ _ _ => (pg_name (i := 1) sc_all_states.nd rfl (.inl rfl))) (fun _ _ _ _ _ => pts_nil) (fun _ _ _ _ _ => (pe_gf G_state_by hr (by decide) gd (by rfl) (pa_cons (pe_gf G_many_cells hr (by decide) gd (by rfl) (pa_cons (pv 0) pa_nil)) (pa_cons (pv 1) pa_nil))))))), fun ks k h => ?_⟩
  cases h with
  | mk N hn =>
    have := pow16 hn
    exact st_ret (ev_lcA (it_rngN (av_cons (ev_shl1 ev_int (ev_call (av_cons ((ev_var rfl rfl)) av_nil) (R_many_cells.mk _)) (by omega)) av_nil) (by omega)) (fun i hi => (ev_call (av_cons ((ev_call (av_cons ((ev_var rfl rfl)) av_nil) (R_many_cells.mk _))) (av_cons ((ev_var rfl rfl)) av_nil)) (R_state_by.mk _ _ hn))) (by omega) (by decide)) rfl
inductive R_heard_by : List Kd → Kd → Prop
  | mk (N : Net) (c s : Nat) (h : WOk N) (hc : c < N.n) : R_heard_by [.im (netD N), .im (.int ((c : Nat) : Int)), .im (stD N.n s)] (.im (fr (heard N c s)))
theorem heard_eq (N : Net) (c s : Nat) : HnQ.sum (given N.n (fun i => decide (((bit s i : Nat) : Int) = 1)) (N.W c)) = heard N c s := by
  rw [sum_given]
  refine sm_congr fun i _ => ?_
  by_cases h : bit s i = 1
  · rw [if_pos h, if_pos (by rw [h]; rfl)]
  · rw [if_neg h, if_neg (by intro z; exact h (by have := of_decide_eq_true z; omega))]
theorem g_heard_by (M : Mods K mg) (G_total : PFn P w K mg base T "total" s_total ["fractions"] 3 R_total) : PFn P w K mg base T "heard_by" s_heard_by ["net", "cell", "state"] 4 R_heard_by := by
  refine pf_of (T := T) M.f_heard_by sc_heard_by (fun ks k h => by cases h; rfl) (fun _ _ _ _ _ _ us hl => match us, hl with | [_, _, _], _ => rfl) fun f cdv A outer s H hr gd => ⟨_,
    (pss_one (ps_ret (pe_gf G_total hr (by decide) gd (by rfl) (pa_cons (pe_lc (own := [("weight", 3), ("each", 4)]) (g := gTup K 2 (gCons (gName 3) (gCons (gName 4) gNil))) rfl sc_heard_by.nd (RZ.pi_zipA (by rfl) M.n_zip (pa_cons (pe_ix (ixT (K := K) rfl) (pe_ix (ixT (K := K) rfl) (pv 0) pe_int (fun _ _ => rfl)) (pv 1) (fun _ _ => rfl)) (pa_cons (pv 2) pa_nil))) (blkOk_by (N := nm_heard_by) (sc := defScope s_heard_by) (by decide +kernel)) (fun _ _ _ _ _ => (pg_tup rfl (pgs_cons (pg_name (i := 3) sc_heard_by.nd rfl (.inl rfl)) (pgs_cons (pg_name (i := 4) sc_heard_by.nd rfl (.inl rfl)) pgs_nil)))) (fun _ _ _ _ _ => (pts_one (pt_cmpR op_eq (pv 4) pe_int (nomark _)))) (fun _ _ _ _ _ => (pv 3))) pa_nil)))), fun ks k h => ?_⟩
  cases h with
  | mk N c s h hc =>
    have hl := h.le
    rw [← heard_eq]
    refine st_ret (ev_call (av_cons (ev_ls ((ev_lc (n := N.n) (it_zipT (d1 := fun i => fr (N.W c i)) (d2 := fun i => .int ((bit s i : Nat) : Int)) (av_cons (ev_ixT (ev_ixT (ev_var rfl rfl) ev_int rfl) (ev_var rfl rfl) (at_row hc)) (av_cons ((ev_var rfl rfl)) av_nil)) (by rw [len_row, len_row, Nat.min_self]) (fun i hi => get_row' hi) (fun i hi => get_row' hi)) (fun i hi => tv_test (ev_eqI (ev_var rfl rfl) ev_int)) (fun i hi _ => (ev_var rfl rfl)) (by omega) (by decide)).as (congrArg Kd.fl (given_map fr _ _ _)))) av_nil) (total_mk (a := 22) (b := 8) (fun x hx => ?_) (Nat.le_trans (given_le _ _ _) hl))) rfl
    obtain ⟨i, _, _, rfl⟩ := given_mem hx
    exact h.w _ _
inductive R_wanted_by : List Kd → Kd → Prop
  | mk (N : Net) (s : Nat) (h : NetOk N) : R_wanted_by [.im (netD N), .im (stD N.n s)] (.im (stD N.n (next N s)))
theorem g_wanted_by (M : Mods K mg) (G_many_cells : PFn P w K mg base T "many_cells" s_many_cells ["net"] 1 R_many_cells) (G_is_less : PFn P w K mg base T "is_less" s_is_less ["one", "two"] 1 R_is_less) (G_heard_by : PFn P w K mg base T "heard_by" s_heard_by ["net", "cell", "state"] 4 R_heard_by) : PFn P w K mg base T "wanted_by" s_wanted_by ["net", "state"] 5 R_wanted_by := by
  refine pf_of (T := T) M.f_wanted_by sc_wanted_by (fun ks k h => by cases h; rfl) (fun _ _ _ _ _ _ us hl => match us, hl with | [_, _], _ => rfl) fun f cdv A outer s H hr gd => ⟨_,
    (pss_one (ps_ret (pe_callTy (tupK (K := K) rfl) (by rfl) M.n_tuple PyProof.Rows.boot_tuple (pa_cons (pe_lc (own := [("cell", 2)]) (g := gName 2) (tt := tYes) rfl sc_wanted_by.nd (pi_range1 (by rfl) M.n_range (pa_cons (pe_gf G_many_cells hr (by decide) gd (by rfl) (pa_cons (pv 0) pa_nil)) pa_nil)) (blkOk_by (N := nm_wanted_by) (sc := defScope s_wanted_by) (by decide +kernel)) (fun _ _ _ _ _ => (pg_name (i := 2) sc_wanted_by.nd rfl (.inl rfl))) (fun _ _ _ _ _ => pts_nil) (fun _ _ _ _ _ => (pe_ifExp (pt_val (pe_gf G_is_less hr (by decide) gd (by rfl) (pa_cons (pe_ix (ixT (K := K) rfl) (pe_ix (ixT (K := K) rfl) (pv 0) pe_int (fun _ _ => rfl)) (pv 2) (fun _ _ => rfl)) (pa_cons (pe_gf G_heard_by hr (by decide) gd (by rfl) (pa_cons (pv 0) (pa_cons (pv 2) (pa_cons (pv 1) pa_nil)))) pa_nil)))) pe_int pe_int))) pa_nil)))), fun ks k h => ?_⟩
  cases h with
  | mk N s h =>
    have hl := h.le
    refine st_ret ((ev_tupL (ev_ls (ev_lcA (it_rngN (av_cons ((ev_call (av_cons ((ev_var rfl rfl)) av_nil) (R_many_cells.mk _))) av_nil) (by omega)) (fun i hi => ev_ifD (tv_B (ev_call (av_cons (ev_ixT (ev_ixT (ev_var rfl rfl) ev_int rfl) (ev_var rfl rfl) (at_row hi)) (av_cons ((ev_call (av_cons ((ev_var rfl rfl)) (av_cons ((ev_var rfl rfl)) (av_cons ((ev_var rfl rfl)) av_nil))) (R_heard_by.mk _ _ _ h.toWOk hi))) av_nil)) (R_is_less.mk _ _ (h.m i).to (heard_bd h.toWOk i s).to))) (fun _ => ev_int) (fun _ => ev_int)) (by omega) (by decide)))).as ?_) rfl
    congr 2
    refine List.map_congr_left fun i hi => ?_
    unfold next
    rw [bit_nm _ (List.mem_range.mp hi)]
    show (if decide (N.M i < heard N i s) = true then D.int 1 else D.int 0) = _
    unfold HnQ.wants
    split <;> rfl
inductive R_is_pair_against : List Kd → Kd → Prop
  | mk (N : Net) (i j : Nat) (hi : i < N.n) (hj : j < N.n) (hs : sg (N.W i j) = sg (N.W j i)) : R_is_pair_against [.im (netD N), .im (.int ((i : Nat) : Int)), .im (.int ((j : Nat) : Int))] (.im (.bl false))
theorem g_is_pair_against (M : Mods K mg) (G_sign_of : PFn P w K mg base T "sign_of" s_sign_of ["one"] 1 R_sign_of) : PFn P w K mg base T "is_pair_against" s_is_pair_against ["net", "one", "two"] 2 R_is_pair_against := by
  refine pf_of (T := T) M.f_is_pair_against sc_is_pair_against (fun ks k h => by cases h; rfl) (fun _ _ _ _ _ _ us hl => match us, hl with | [_, _, _], _ => rfl) fun f cdv A outer s H hr gd => ⟨_,
    (pss_one (ps_ret (pe_cmpR op_ne (pe_gf G_sign_of hr (by decide) gd (by rfl) (pa_cons (pe_ix (ixT (K := K) rfl) (pe_ix (ixT (K := K) rfl) (pe_ix (ixT (K := K) rfl) (pv 0) pe_int (fun _ _ => rfl)) (pv 1) (fun _ _ => rfl)) (pv 2) (fun _ _ => rfl)) pa_nil)) (pe_gf G_sign_of hr (by decide) gd (by rfl) (pa_cons (pe_ix (ixT (K := K) rfl) (pe_ix (ixT (K := K) rfl) (pe_ix (ixT (K := K) rfl) (pv 0) pe_int (fun _ _ => rfl)) (pv 2) (fun _ _ => rfl)) (pv 1) (fun _ _ => rfl)) pa_nil)) (nomark _)))), fun ks k h => ?_⟩
  cases h with
  | mk N i j hi hj hs =>
    refine st_ret ((ev_neI (ev_call (av_cons (ev_ixT (ev_ixT (ev_ixT (ev_var rfl rfl) ev_int rfl) (ev_var rfl rfl) (at_row hi)) (ev_var rfl rfl) (at_row hj)) av_nil) (R_sign_of.mk _)) (ev_call (av_cons (ev_ixT (ev_ixT (ev_ixT (ev_var rfl rfl) ev_int rfl) (ev_var rfl rfl) (at_row hj)) (ev_var rfl rfl) (at_row hi)) av_nil) (R_sign_of.mk _))).as ?_) rfl
    rw [hs, decide_eq_true rfl]
    rfl
inductive R_pair_against : List Kd → Kd → Prop
  | mk (N : Net) (hn : N.n ≤ 4) (hs : ∀ i j, i < N.n → j < N.n → sg (N.W i j) = sg (N.W j i)) : R_pair_against [.im (netD N)] (.fl [])
theorem g_pair_against (M : Mods K mg) (G_many_cells : PFn P w K mg base T "many_cells" s_many_cells ["net"] 1 R_many_cells) (G_is_pair_against : PFn P w K mg base T "is_pair_against" s_is_pair_against ["net", "one", "two"] 2 R_is_pair_against) : PFn P w K mg base T "pair_against" s_pair_against ["net"] 3 R_pair_against := by
  refine pf_of (T := T) M.f_pair_against sc_pair_against (fun ks k h => by cases h; rfl) (fun _ _ _ _ _ _ us hl => match us, hl with | [_], _ => rfl) fun f cdv A outer s H hr gd => ⟨_,
    (pss_cons (ps_set (i := 1) sc_pair_against.nd rfl (.inr rfl) (pe_callTy c_range1 (by rfl) M.n_range PyProof.Rows.boot_range (pa_cons (pe_gf G_many_cells hr (by decide) gd (by rfl) (pa_cons (pv 0) pa_nil)) pa_nil)))
      (pss_one (ps_ret (pe_slice sl_list (pe_lc2 (own := [("one", 2), ("two", 3)]) (vs1 := [3]) (g := gName 2) (g1 := gName 3) (tt := tYes) rfl sc_pair_against.nd (pi_rg (pv 1)) (blkOk_by (N := nm_pair_against) (sc := defScope s_pair_against) (by decide +kernel)) (by decide) (fun _ _ _ _ _ => (pg_name (i := 2) sc_pair_against.nd rfl (.inl rfl))) (fun _ _ _ _ _ => pts_nil) (fun _ _ _ _ _ => (pi_rg (pv 1))) (fun _ _ _ _ _ => (pg_name (i := 3) sc_pair_against.nd rfl (.inl rfl))) (fun _ _ _ _ _ => (pts_one (PW.pt (pw_and (pt_cmpR op_lt (pv 2) (pv 3) (nomark _)) (pw_and1 (pt_val (pe_gf G_is_pair_against hr (by decide) gd (by rfl) (pa_cons (pv 0) (pa_cons (pv 2) (pa_cons (pv 3) pa_nil)))))))))) (fun _ _ _ _ _ => (pe_tup (pa_cons (pv 2) (pa_cons (pv 3) pa_nil))))) po_none (po_some pe_int))))), fun ks k h => ?_⟩
  cases h with
  | mk N hn hs =>
    refine st_seq (Γ1 := [.im (netD N), .rg 0 ((N.n : Nat) : Int), .none, .none]) (st_set (ev_range (ev_call (av_cons ((ev_var rfl rfl)) av_nil) (R_many_cells.mk _)))) ?_
    refine st_ret (ev_slTo (n := 1) (ev_ls (ev_lc2N (n := N.n) (n1 := N.n) (it_rgN (ev_var rfl rfl) (by omega)) (fun i hi => it_rgN (ev_var rfl rfl) (by omega)) (fun i j hi hj => (tv_and (tv_test (ev_opB0 (ev_var rfl rfl) (ev_var rfl rfl))) fun _ => tv_B (ev_call (av_cons ((ev_var rfl rfl)) (av_cons ((ev_var rfl rfl)) (av_cons ((ev_var rfl rfl)) av_nil))) (R_is_pair_against.mk _ _ _ hi hj (hs _ _ hi hj)))).as (Bool.and_false _)) (by decide) (by decide))) ev_int) rfl
end
end Hn
end

section
set_option Elab.async false
set_option linter.all false
set_option maxRecDepth 100000
set_option maxHeartbeats 1000000
namespace Hn
open PySem PySem.Spec PyProof.Rows L2 NdefX LamX HnQ
section
variable {P : Program} {w : World} {K : PySem.W.Frag} {mg : Str → Option Value} {base : Heap} {T : List NTab}
abbrev wayD (l : List Nat) : D := .tup (l.map fun k => .int ((k : Nat) : Int))
abbrev kvsD (w : Wy) : List (Int × D) := w.map fun p => (((p.1 : Nat) : Int), wayD p.2)
abbrev intsD (l : List Nat) : List D := l.map fun k => .int ((k : Nat) : Int)
theorem getI_kvs (w : Wy) (i : Nat) : getI (kvsD w) ((i : Nat) : Int) = (getW w i).map wayD := by
  induction w with
  | nil => rfl
  | cons p r ih =>
    obtain ⟨j, l⟩ := p
    show (if ((j : Nat) : Int) = ((i : Nat) : Int) then some (wayD l) else getI (kvsD r) i) = Option.map wayD (if j = i then some l else getW r i)
    by_cases h : j = i
    · rw [if_pos h, if_pos (by rw [h])]; rfl
    · rw [if_neg h, if_neg (by omega)]; exact ih
def adjN (N : Net) (i j : Nat) : Bool := decide (N.W i j ≠ 0)
def Sim (s : Slot) : Prop := s = .none ∨ ∃ d, s = .im d
def Slot.noP : Slot → Bool
  | .par _ => false
  | _ => true
theorem noPar_of {Γ : List Slot} (h : Γ.all Slot.noP = true) : noPar Γ := fun i k e => by
  have := List.all_eq_true.mp h _ (List.mem_of_getElem? e)
  cases this
theorem cmp_intsN (l : List Nat) : ∀ d ∈ intsD l, d.cmp := fun d h => by
  obtain ⟨k, _, rfl⟩ := List.mem_map.mp h
  exact cmp_int _
inductive R_next_cells : List Kd → Kd → Prop
  | mk (N : Net) (c : Nat) (w : Wy) (hn : N.n ≤ 4) (hc : c < N.n) : R_next_cells [.im (netD N), .im (.int ((c : Nat) : Int)), .dc (kvsD w)] (.fl (intsD (nexts N.n (adjN N) w c)))
theorem g_next_cells (M : Mods K mg) (G_many_cells : PFn P w K mg base T "many_cells" s_many_cells ["net"] 1 R_many_cells) : PFn P w K mg base T "next_cells" s_next_cells ["net", "cell", "ways"] 2 R_next_cells := by
  obtain ⟨aZERO, mZERO, vZERO⟩ := M.ZERO
  refine pf_of (T := T) M.f_next_cells sc_next_cells (fun ks k h => by cases h; rfl) (fun _ _ _ _ _ _ us hl => match us, hl with | [_, _, _], _ => rfl) fun f cdv A outer s H hr gd => ⟨_,
    (pss_one (ps_ret (pe_lc (own := [("other", 3)]) (g := gName 3) rfl sc_next_cells.nd (pi_range1 (by rfl) M.n_range (pa_cons (pe_gf G_many_cells hr (by decide) gd (by rfl) (pa_cons (pv 0) pa_nil)) pa_nil)) (blkOk_by (N := nm_next_cells) (sc := defScope s_next_cells) (by decide +kernel)) (fun _ _ _ _ _ => (pg_name (i := 3) sc_next_cells.nd rfl (.inl rfl))) (fun _ _ _ _ _ => (pts_one (PW.pt (pw_and (pt_cmp (pc_dnotin (hu_of hr) (pv 3) (pv 2)) (by rfl)) (pw_and1 (pt_cmpR (neDK (K := K) rfl hr.units) (pe_ix (ixT (K := K) rfl) (pe_ix (ixT (K := K) rfl) (pe_ix (ixT (K := K) rfl) (pv 0) pe_int (fun _ _ => rfl)) (pv 1) (fun _ _ => rfl)) (pv 3) (fun _ _ => rfl)) (pe_glob (v := .ref _) (by rfl) mZERO rfl) (nomark _))))))) (fun _ _ _ _ _ => (pv 3))))), fun ks k h => ?_⟩
  cases h with
  | mk N c w hn hc =>
    refine st_ret ((ev_lc (f := fun o => (getI (kvsD w) ((o : Nat) : Int)).isNone && !decide (N.W c o = 0)) (dd := fun o => .int ((o : Nat) : Int)) (it_rngN (av_cons ((ev_call (av_cons ((ev_var rfl rfl)) av_nil) (R_many_cells.mk _))) av_nil) (by omega)) (fun i hi => tv_and (tv_B (ev_dnotin (ev_var rfl rfl) (ev_var rfl rfl))) fun _ => tv_test (ev_neF (ev_ixT (ev_ixT (ev_ixT (ev_var rfl rfl) ev_int rfl) (ev_var rfl rfl) (at_row hc)) (ev_var rfl rfl) (at_row hi)) (ev_gl vZERO))) (fun i hi _ => (ev_var rfl rfl)) (by omega) (by decide)).as ?_) rfl
    unfold given nexts
    congr 3
    funext o
    rw [getI_kvs]
    congr 1
    · cases getW w o <;> rfl
    · unfold adjN
      by_cases h : N.W c o = 0 <;> simp [h]
theorem growTo_some {n : Nat} {adj : Nat → Nat → Bool} {out : Wy} : ∀ {m k : Nat}, growTo n adj m = some out → k ≤ m → ∃ w, growTo n adj k = some w
  | m, k, h, hk => by
    induction m generalizing out with
    | zero => exact ⟨out, by rw [show k = 0 by omega]; exact h⟩
    | succ m ih =>
      by_cases e : k = m + 1
      · exact ⟨out, by rw [e]; exact h⟩
      · unfold growTo at h
        cases q : growTo n adj m with
        | none => rw [q] at h; cases h
        | some w => exact ih q (by omega)
inductive R_grown_tree : List Kd → Kd → Prop
  | mk (N : Net) (out : Wy) (hn : N.n ≤ 4) (h : growTo N.n (adjN N) N.n = some out) (ha : ∀ c, c < N.n → (getW out c).isSome = true) : R_grown_tree [.im (netD N)] (.fl ((List.range N.n).map fun c => wayD (wayOf out c)))
def WayLen (ways : Wy) : Prop := ∀ i l, getW ways i = some l → l.length ≤ ways.length
theorem WayLen.step {ways : Wy} (h : WayLen ways) {n : Nat} {adj : Nat → Nat → Bool} {c : Nat} : WayLen (growStep n adj ways c) := fun i l e => by
  unfold growStep at e ⊢
  rw [getW_app] at e
  rw [List.length_append, List.length_map]
  cases q : getW ways i with
  | some l' =>
    rw [q] at e
    cases e
    have := h i l q
    omega
  | none =>
    rw [q] at e
    have e : getW ((nexts n adj ways c).map fun o => (o, wayOf ways c ++ [o])) i = some l := e
    have hw : (wayOf ways c).length ≤ ways.length := by
      unfold wayOf
      cases q2 : getW ways c with
      | none => exact Nat.zero_le _
      | some w => exact h c w q2
    by_cases hm : i ∈ nexts n adj ways c
    · have hp : 0 < (nexts n adj ways c).length := List.length_pos_of_mem hm
      have key : ∀ os : List Nat, getW (os.map fun o => (o, wayOf ways c ++ [o])) i = some l → l.length = (wayOf ways c).length + 1 := by
        intro os
        induction os with
        | nil => intro z; cases z
        | cons o os ih =>
          intro z
          have z : (if o = i then some (wayOf ways c ++ [o]) else getW (os.map fun o => (o, wayOf ways c ++ [o])) i) = some l := z
          by_cases ho : o = i
          · rw [if_pos ho] at z
            cases z
            simp
          · rw [if_neg ho] at z
            exact ih z
      have := key _ e
      omega
    · rw [getW_map hm] at e
      cases e
theorem scrub6 {d1 d2 d4 : D} {kv : List (Int × D)} {o : List D} {s5 : Slot} (h : Sim s5) : scrub [.im d1, .od kv, .im d2, .own o, .im d4, s5] = [.im d1, .od kv, .im d2, .own o, .im d4, s5] := by
  rcases h with rfl | ⟨d, rfl⟩ <;> rfl
section
variable {mo : Option Addr} {ts : TS} {te tk : TE} {R : Kd → Prop}
/-- one cell's neighbours are pushed -/
theorem st_push {N : Net} {ways : Wy} {rest : List Nat} {c : Nat} {d2 : D} {s5 : Slot} (hw : (getW ways c).isSome = true) (hwl : WayLen ways) (h5 : Sim s5) (hl1 : ways.length + 4 ≤ 900) (hl2 : rest.length + 4 ≤ 900) (hn : N.n ≤ 4)
    (he : Ev K T mo te [.im (netD N), .od (kvsD ways), .im d2, .own (intsD rest), .im (.int ((c : Nat) : Int)), s5] (.fl (intsD (nexts N.n (adjN N) ways c)))) :
    StP K T mo true (tFor (iList K te) (gName 5) (tSeq (tAsg (tTup (StX.tStar K (tDGet (tVar 1) (tVar 4)) (tCons (tVar 5) tNil))) (gSub (tVar 1) (tVar 5) rSetD)) (tDrop (tBM K "list" rAppend (tVar 3) (tCons (tVar 5) tNil)))))
      [.im (netD N), .od (kvsD ways), .im d2, .own (intsD rest), .im (.int ((c : Nat) : Int)), s5]
      (fun Γ => ∃ s5', Sim s5' ∧ Γ = [.im (netD N), .od (kvsD (growStep N.n (adjN N) ways c)), .im d2, .own (intsD (rest ++ nexts N.n (adjN N) ways c)), .im (.int ((c : Nat) : Int)), s5']) R := by
  generalize hnx : nexts N.n (adjN N) ways c = nx at *
  have nd : nx.Nodup := by rw [← hnx]; exact nexts_nodup
  have nm : ∀ o ∈ nx, getW ways o = none := fun o h => (nexts_mem (by rw [hnx]; exact h)).2.1
  have nl : nx.length ≤ 4 := by rw [← hnx]; exact Nat.le_trans nexts_len hn
  obtain ⟨w, hw⟩ := Option.isSome_iff_exists.mp hw
  have wl := hwl c w hw
  refine st_forFl (j := 5) he (dd := fun i => .int (((nx.getD i 0 : Nat)) : Int)) (fun i hi => ?_) (noPar_of ?_) (fun i Γ => ∃ s5', Sim s5' ∧ Γ = [.im (netD N), .od (kvsD (ways ++ (nx.take i).map fun o => (o, w ++ [o]))), .im d2, .own (intsD (rest ++ nx.take i)), .im (.int ((c : Nat) : Int)), s5']) ⟨s5, h5, ?_⟩ ?_ ?_
  · rw [List.length_map] at hi
    rw [List.getElem?_map, List.getElem?_eq_getElem hi, List.getD_eq_getElem?_getD, List.getElem?_eq_getElem hi]
    rfl
  · rcases h5 with rfl | ⟨d, rfl⟩ <;> rfl
  · simp
  · rintro i Γ hi ⟨s5', h5', rfl⟩
    rw [List.length_map] at hi
    have e1 : nx.getD i 0 = nx[i] := by rw [List.getD_eq_getElem?_getD, List.getElem?_eq_getElem hi]; rfl
    have e2 : nx.take (i + 1) = nx.take i ++ [nx[i]] := by rw [List.take_add_one, List.getElem?_eq_getElem hi]; rfl
    have hnot : nx[i] ∉ nx.take i := fun m => by
      have q := nd
      rw [← List.take_append_drop i nx, List.nodup_append] at q
      refine q.2.2 _ m nx[i] ?_ rfl
      rw [List.drop_eq_getElem_cons hi]
      exact List.mem_cons_self
    have fresh : getW (ways ++ (nx.take i).map fun o => (o, w ++ [o])) nx[i] = none := by
      rw [getW_app, nm _ (List.getElem_mem hi), getW_map hnot]
      rfl
    have there : getW (ways ++ (nx.take i).map fun o => (o, w ++ [o])) c = some w := getW_keep hw
    rw [e1]
    have tup : Ev K T mo (tTup (StX.tStar K (tDGet (tVar 1) (tVar 4)) (tCons (tVar 5) tNil))) [.im (netD N), .od (kvsD (ways ++ (nx.take i).map fun o => (o, w ++ [o]))), .im d2, .own (intsD (rest ++ nx.take i)), .im (.int ((c : Nat) : Int)), .im (.int ((nx[i] : Nat) : Int))] (.im (wayD (w ++ [nx[i]]))) := by
      refine (ev_tup (ds := intsD w ++ [.int ((nx[i] : Nat) : Int)]) (av_star (es := [.int ((nx[i] : Nat) : Int)]) (ev_dget (d := wayD w) (ev_var rfl rfl) (ev_var rfl rfl) ?_) (av_cons ((ev_var rfl rfl)) av_nil)) ?_).as ?_
      · rw [getI_kvs, there]
        rfl
      · refine Nat.ble_eq_true_of_le ?_
        rw [List.length_append, List.length_map]
        show w.length + 1 ≤ 1000
        omega
      · unfold intsD wayD
        rw [List.map_append]
        rfl
    refine st_seq (Γ1 := [.im (netD N), .od (kvsD (ways ++ (nx.take (i + 1)).map fun o => (o, w ++ [o]))), .im d2, .own (intsD (rest ++ nx.take i)), .im (.int ((c : Nat) : Int)), .im (.int ((nx[i] : Nat) : Int))]) ((st_dput (n := 1) (kvs := kvsD (ways ++ (nx.take i).map fun o => (o, w ++ [o]))) (d := wayD (w ++ [nx[i]])) rfl ?_ tup (ev_var rfl rfl) ?_).to (fun Γ e => e.trans ?_) fun _ z => z) ((st_app (i := 3) rfl ?_ (ev_var rfl rfl)).to (fun Γ e => ?_) fun _ z => z)
    · rw [List.length_map, List.length_append, List.length_map, List.length_take]
      omega
    · rw [getI_kvs, fresh]
      rfl
    · rw [e2, List.map_append, ← List.append_assoc]
      unfold kvsD
      rw [List.map_append (l₁ := ways ++ _)]
      rfl
    · rw [List.length_map, List.length_append, List.length_take]
      omega
    · refine ⟨⟨.im (.int ((nx[i] : Nat) : Int)), .inr ⟨_, rfl⟩, ?_⟩, ?_⟩
      · rw [e, e2, ← List.append_assoc]
        unfold intsD
        rw [List.map_append (l₁ := rest ++ _)]
        rfl
      · rw [e]
        exact noPar_of rfl
  · rintro Γ ⟨s5', h5', rfl⟩
    refine ⟨s5', h5', ?_⟩
    rw [List.length_map, List.take_length]
    unfold growStep wayOf
    rw [hw, hnx]
    rfl
/-- the queue is emptied -/
theorem st_grow {N : Net} {out : Wy} {d2 : D} (hn : N.n ≤ 4) (b : Nat) (hb : b ≤ 500) (he : ∀ ways todo c s5, Sim s5 → c < N.n → Ev K T mo te [.im (netD N), .od (kvsD ways), .im d2, .own (intsD todo), .im (.int ((c : Nat) : Int)), s5] (.fl (intsD (nexts N.n (adjN N) ways c)))) :
    ∀ {m ways todo s4 s5}, Sim s4 → Sim s5 → grow N.n (adjN N) m ways todo = some out → (∀ c ∈ todo, c < N.n ∧ (getW ways c).isSome = true) → WayLen ways → ways.length + 4 * m ≤ b → todo.length + 4 * m ≤ b →
    StP K T mo true (tWhile (tTest (tOp (rNeD K) (tVar 3) (tLst tNil))) (tSeq (tAsg (tBM K "list" rPopAt (tVar 3) (tCons (tC (.int 0)) tNil)) (gName 4)) (tFor (iList K te) (gName 5) (tSeq (tAsg (tTup (StX.tStar K (tDGet (tVar 1) (tVar 4)) (tCons (tVar 5) tNil))) (gSub (tVar 1) (tVar 5) rSetD)) (tDrop (tBM K "list" rAppend (tVar 3) (tCons (tVar 5) tNil)))))))
      [.im (netD N), .od (kvsD ways), .im d2, .own (intsD todo), s4, s5] (fun Γ => out.length ≤ b ∧ WayLen out ∧ ∃ s3 s4' s5', s3 = .own [] ∧ Sim s4' ∧ Sim s5' ∧ Γ = [.im (netD N), .od (kvsD out), .im d2, s3, s4', s5']) R := by
  intro m ways todo s4 s5 h4 h5 hg ht hwl hl1 hl2
  refine st_whileP (fun m Γ => ∃ ways todo s4 s5, Γ = [.im (netD N), .od (kvsD ways), .im d2, .own (intsD todo), s4, s5] ∧ Sim s4 ∧ Sim s5 ∧ grow N.n (adjN N) m ways todo = some out ∧ (∀ c ∈ todo, c < N.n ∧ (getW ways c).isSome = true) ∧ WayLen ways ∧ ways.length + 4 * m ≤ b ∧ todo.length + 4 * m ≤ b) m ⟨ways, todo, s4, s5, rfl, h4, h5, hg, ht, hwl, hl1, hl2⟩ ?_
  rintro m Γ ⟨ways, todo, s4, s5, rfl, h4, h5, hg, ht, hwl, hl1, hl2⟩
  refine ⟨!(intsD todo).isEmpty, tv_test (ev_neNil (ev_var rfl rfl) (ev_ls (ev_lst (ds := []) av_nil)) (cmp_intsN todo)), fun z => ?_, fun z => ?_⟩
  · match todo, m, hg, ht, hl1, hl2, z with
    | c :: rest, m + 1, hg, ht, hl1, hl2, z =>
      have hc := ht c List.mem_cons_self
      have hsc : scrub [.im (netD N), .od (kvsD ways), .im d2, .own (intsD (c :: rest)), s4, s5] = [.im (netD N), .od (kvsD ways), .im d2, .own (intsD (c :: rest)), s4, s5] := by
        rcases h4 with rfl | ⟨d, rfl⟩ <;> rcases h5 with rfl | ⟨d', rfl⟩ <;> rfl
      rw [List.length_cons] at hl2
      refine st_seq (Γ1 := [.im (netD N), .od (kvsD ways), .im d2, .own (intsD rest), .im (.int ((c : Nat) : Int)), s5]) ((st_pop (n := 3) (m := 4) (d := .int ((c : Nat) : Int)) (ds := intsD rest) rfl (by decide) ?_ ev_int).to (fun Γ e => e.trans ?_) fun _ z => z) ((st_push hc.2 hwl h5 (by omega) (by omega) hn (he ways rest c s5 h5 hc.1)).to (fun Γ e => ?_) fun _ z => z)
      · rcases h4 with rfl | ⟨d, rfl⟩
        · exact ⟨.non, .inr rfl⟩
        · exact ⟨d, .inl rfl⟩
      · rw [hsc]
        rfl
      · obtain ⟨s5', h5', rfl⟩ := e
        have nl : (nexts N.n (adjN N) ways c).length ≤ 4 := Nat.le_trans nexts_len hn
        refine ⟨m, Nat.lt_succ_self m, growStep N.n (adjN N) ways c, rest ++ nexts N.n (adjN N) ways c, .im (.int ((c : Nat) : Int)), s5', rfl, .inr ⟨_, rfl⟩, h5', hg, fun o ho => ?_, hwl.step, ?_, ?_⟩
        · rcases List.mem_append.mp ho with ho | ho
          · have q := ht o (List.mem_cons_of_mem _ ho)
            obtain ⟨l, hl⟩ := Option.isSome_iff_exists.mp q.2
            refine ⟨q.1, ?_⟩
            unfold growStep
            rw [getW_keep hl]
            rfl
          · refine ⟨(nexts_mem ho).1, ?_⟩
            unfold growStep
            rw [getW_app]
            have key : ∀ os : List Nat, o ∈ os → (getW (os.map fun o => (o, wayOf ways c ++ [o])) o).isSome = true := by
              intro os
              induction os with
              | nil => intro z; cases z
              | cons a os ih =>
                intro z
                show (if a = o then some _ else getW (os.map fun o => (o, wayOf ways c ++ [o])) o).isSome = true
                by_cases e : a = o
                · rw [if_pos e]; rfl
                · rw [if_neg e]
                  exact ih ((List.mem_cons.mp z).resolve_left fun y => e y.symm)
            have q := key _ ho
            cases hh : getW ways o with
            | none => exact q
            | some l => rfl
        · unfold growStep
          rw [List.length_append, List.length_map]
          omega
        · rw [List.length_append]
          omega
    | c :: rest, 0, hg, ht, hl1, hl2, z => cases hg
    | [], m, hg, ht, hl1, hl2, z => cases z
  · match todo, hg, z with
    | [], hg, z =>
      have e : ways = out := by
        unfold grow at hg
        exact Option.some.inj hg
      subst e
      exact ⟨by omega, hwl, .own [], s4, s5, rfl, h4, h5, rfl⟩
    | c :: rest, hg, z => cases z
end
theorem g_grown_tree (M : Mods K mg) (G_many_cells : PFn P w K mg base T "many_cells" s_many_cells ["net"] 1 R_many_cells) (G_next_cells : PFn P w K mg base T "next_cells" s_next_cells ["net", "cell", "ways"] 2 R_next_cells) : PFn P w K mg base T "grown_tree" s_grown_tree ["net"] 3 R_grown_tree := by
  refine pf_of (T := T) M.f_grown_tree sc_grown_tree (fun ks k h => by cases h; rfl) (fun _ _ _ _ _ _ us hl => match us, hl with | [_], _ => rfl) fun f cdv A outer s H hr gd => ⟨_,
    (pss_cons (ps_set (i := 1) sc_grown_tree.nd rfl (.inr rfl) pe_dnewK)
      (pss_cons (ps_for PassesOwn.never rfl (pi_range1 (by rfl) M.n_range (pa_cons (pe_gf G_many_cells hr (by decide) gd (by rfl) (pa_cons (pv 0) pa_nil)) pa_nil)) (pg_name (i := 2) sc_grown_tree.nd rfl (.inl rfl))
      (pss_one (ps_if (pt_cmp (pc_dnotin (hu_of hr) (pv 2) (pv 1)) (by rfl)) (pss_cons (ps_asg (pe_tup (pa_cons (pe_tup (pa_cons (pv 2) pa_nil)) (pa_cons (pe_lst (pa_cons (pv 2) pa_nil)) pa_nil))) (pg_tup rfl (pgs_cons (pg_sub (pv 1) (pv 2) (set_dict (hu_of hr))) (pgs_cons (pg_name (i := 3) sc_grown_tree.nd rfl (.inl rfl)) pgs_nil))))
      (pss_one (ps_while PassesOwn.never (pt_cmpR (neDK (K := K) rfl hr.units) (pv 3) (pe_lst pa_nil) (nomark _))
      (pss_cons (ps_set (i := 4) sc_grown_tree.nd rfl (.inl rfl) (pe_bm PySem.F.plainAttrs_list PySem.F.slot_list_pop PySem.F.type_list_pop mt_popAt (pv 3) (pa_cons pe_int pa_nil)))
      (pss_one (ps_for PassesOwn.never rfl (pi_list (pe_gf G_next_cells hr (by decide) gd (by rfl) (pa_cons (pv 0) (pa_cons (pv 4) (pa_cons (pv 1) pa_nil))))) (pg_name (i := 5) sc_grown_tree.nd rfl (.inl rfl))
      (pss_cons (ps_asg (pe_tup (StX.pa_star (pe_dget (hu_of hr) (pv 1) (pv 4) (fun _ _ => rfl)) (pa_cons (pv 5) pa_nil))) (pg_sub (pv 1) (pv 5) (set_dict (hu_of hr))))
      (pss_one (ps_expr (pe_bm PySem.F.plainAttrs_list PySem.F.slot_list_append PySem.F.type_list_append mt_append (pv 3) (pa_cons (pv 5) pa_nil))))))))))) pss_nil)))
      (pss_one (ps_ret (pe_lc (own := [("cell", 4)]) (g := gName 4) (tt := tYes) rfl sc_grown_tree.nd (pi_range1 (by rfl) M.n_range (pa_cons (pe_gf G_many_cells hr (by decide) gd (by rfl) (pa_cons (pv 0) pa_nil)) pa_nil)) (blkOk_by (N := nm_grown_tree) (sc := defScope s_grown_tree) (by decide +kernel)) (fun _ _ _ _ _ => (pg_name (i := 4) sc_grown_tree.nd rfl (.inl rfl))) (fun _ _ _ _ _ => pts_nil) (fun _ _ _ _ _ => (pe_dget (hu_of hr) (pv 1) (pv 4) (fun _ _ => rfl)))))))), fun ks k h => ?_⟩
  cases h with
  | mk N out hn h ha =>
    refine st_seq (Γ1 := [.im (netD N), .od (kvsD []), .none, .none, .none, .none]) st_dnew ?_
    refine st_seqP (N1 := fun Γ => ∃ s2 s3 s4 s5, Γ = [.im (netD N), .od (kvsD out), s2, s3, s4, s5]) (st_forP (n := N.n) (it_rngN (av_cons ((ev_call (av_cons ((ev_var rfl rfl)) av_nil) (R_many_cells.mk _))) av_nil) (by omega)) (fun z => z)
      (fun i Γ => ∃ ways s2 s3 s4 s5, Γ = [.im (netD N), .od (kvsD ways), s2, s3, s4, s5] ∧ (s3 = .none ∨ s3 = .own []) ∧ Sim s4 ∧ Sim s5 ∧ growTo N.n (adjN N) i = some ways ∧ WayLen ways ∧ ways.length ≤ 25 * i) ⟨[], .none, .none, .none, .none, rfl, .inl rfl, .inl rfl, .inl rfl, rfl, (fun _ _ z => nomatch z), Nat.zero_le _⟩ ?_ ?_) ?_
    · rintro i Γ hi ⟨ways, s2, s3, s4, s5, rfl, h3, h4, h5, hg, hwl, hl⟩
      obtain ⟨w', hw'⟩ := growTo_some h (show i + 1 ≤ N.n by omega)
      have hr2 : growRoot N.n (adjN N) ways i = some w' := by
        have q := hw'
        unfold growTo at q
        rw [hg] at q
        exact q
      refine st_if (tv_B (ev_dnotin (ev_var rfl rfl) (ev_var rfl rfl))) (fun z => ?_) fun z => ?_
      · rw [getI_kvs] at z
        have z : getW ways i = none := by
          cases q : getW ways i with
          | none => rfl
          | some l => rw [q] at z; cases z
        have hg2 : grow N.n (adjN N) 5 (ways ++ [(i, [i])]) [i] = some w' := by
          unfold growRoot at hr2
          rw [z] at hr2
          exact hr2
        refine st_seq (Γ1 := [.im (netD N), .od (kvsD (ways ++ [(i, [i])])), .im (.int ((i : Nat) : Int)), .own (intsD [i]), s4, s5]) ((st_dputL (n := 1) (m := 3) (kvs := kvsD ways) (d := wayD [i]) (ds := intsD [i]) (i := ((i : Nat) : Int)) rfl ?_ (ev_tup (ds := [.int ((i : Nat) : Int)]) (av_cons ((ev_var rfl rfl)) av_nil)) (ev_lst (ds := [.int ((i : Nat) : Int)]) (av_cons ((ev_var rfl rfl)) av_nil)) (fun Γ' e => e ▸ (ev_var rfl rfl)) ?_ (by decide) ?_).to (fun Γ e => e.trans ?_) fun _ z => z) ((st_grow (out := w') hn (25 * i + 21) (by omega) (fun ways todo c s5 h5 hc => (ev_call (av_cons ((ev_var rfl rfl)) (av_cons ((ev_var rfl rfl)) (av_cons ((ev_var rfl rfl)) av_nil))) (R_next_cells.mk _ _ _ hn hc))) h4 h5 hg2 ?_ ?_ ?_ ?_).to (fun Γ e => ?_) fun _ z => z)
        · rw [List.length_map]
          omega
        · rw [getI_kvs, z]
          rfl
        · rcases h3 with rfl | rfl
          · exact ⟨.none, .inl ⟨rfl, rfl⟩⟩
          · exact ⟨.none, .inr ⟨_, rfl⟩⟩
        · unfold kvsD
          rw [List.map_append]
          rfl
        · intro c hc
          rw [List.mem_singleton.mp hc]
          refine ⟨hi, ?_⟩
          rw [getW_app, z]
          show (if i = i then some [i] else none).isSome = true
          rw [if_pos rfl]
          rfl
        · intro j l e
          rw [getW_app] at e
          rw [List.length_append, List.length_singleton]
          cases q : getW ways j with
          | some l' =>
            rw [q] at e
            cases e
            have := hwl j l q
            omega
          | none =>
            rw [q] at e
            have e : (if i = j then some [i] else none) = some l := e
            split at e
            · cases e
              simp
            · cases e
        · rw [List.length_append, List.length_singleton]
          omega
        · rw [List.length_singleton]
          omega
        · obtain ⟨e1, e2, s3, s4', s5', rfl, h4', h5', rfl⟩ := e
          exact ⟨w', _, .own [], s4', s5', rfl, .inr rfl, h4', h5', hw', e2, by omega⟩
      · rw [getI_kvs] at z
        obtain ⟨l, q⟩ : ∃ l, getW ways i = some l := by
          cases q : getW ways i with
          | none => rw [q] at z; cases z
          | some l => exact ⟨l, rfl⟩
        have e : ways = w' := by
          unfold growRoot at hr2
          rw [q] at hr2
          exact Option.some.inj hr2
        subst e
        exact st_next.to (fun Γ e => ⟨ways, _, s3, s4, s5, e, h3, h4, h5, hw', hwl, by omega⟩) fun _ z => z
    · rintro Γ ⟨ways, s2, s3, s4, s5, rfl, _, _, _, hg, _, _⟩
      rw [h] at hg
      cases hg
      exact ⟨s2, s3, s4, s5, rfl⟩
    · rintro Γ ⟨s2, s3, s4, s5, rfl⟩
      refine st_ret (ev_lcA (it_rngN (av_cons ((ev_call (av_cons ((ev_var rfl rfl)) av_nil) (R_many_cells.mk _))) av_nil) (by omega)) (fun i hi => ev_dget (ev_var rfl rfl) (ev_var rfl rfl) ?_) (by omega) (by decide)) rfl
      obtain ⟨l, q⟩ := Option.isSome_iff_exists.mp (ha i hi)
      rw [getI_kvs, q]
      unfold wayOf
      rw [q]
      rfl
end
end Hn
end

section
set_option Elab.async false
set_option linter.all false
set_option maxRecDepth 100000
set_option maxHeartbeats 1000000
namespace Hn
open PySem PySem.Spec PyProof.Rows L2 NdefX LamX HnQ
section
variable {P : Program} {w : World} {K : PySem.W.Frag} {mg : Str → Option Value} {base : Heap} {T : List NTab}
/-- s's ratio is told along the ties -/
structure Rat2 (N : Net) (s : Nat → Rat) : Prop where
  nz : ∀ i, s i ≠ 0
  bd : ∀ i, Bd 2 2 (s i)
  sym : ∀ i j, i < N.n → j < N.n → N.W i j ≠ 0 → N.W j i ≠ 0
  told : ∀ i j, i < N.n → j < N.n → N.W i j ≠ 0 → N.W i j / N.W j i = s j / s i
structure WayOk (N : Net) (way : List Nat) : Prop where
  ne : 0 < way.length
  lt : ∀ i, i < way.length → way.getD i 0 < N.n
  tied : ∀ i, i + 1 < way.length → N.W (way.getD i 0) (way.getD (i + 1) 0) ≠ 0
theorem s_rat {N : Net} {s : Nat → Rat} (h : Rat2 N s) (i j : Nat) : Bd 4 4 (s i / s j) := ((h.bd i).div (h.bd j) (h.nz j)).to
inductive R_scale_along : List Kd → Kd → Prop
  | mk (N : Net) (s : Nat → Rat) (way : List Nat) (hs : Rat2 N s) (hw : WayOk N way) (hb : WOk N) : R_scale_along [.im (netD N), .im (wayD way)] (.im (fr (s (way.getD (way.length - 1) 0) / s (way.getD 0 0))))
theorem g_scale_along (M : Mods K mg) (G_times : PFn P w K mg base T "times" s_times ["one", "two"] 2 R_times) (G_over : PFn P w K mg base T "over" s_over ["one", "two"] 2 R_over) : PFn P w K mg base T "scale_along" s_scale_along ["net", "way"] 3 R_scale_along := by
  obtain ⟨aONE, mONE, vONE⟩ := M.ONE
  refine pf_of (T := T) M.f_scale_along sc_scale_along (fun ks k h => by cases h; rfl) (fun _ _ _ _ _ _ us hl => match us, hl with | [_, _], _ => rfl) fun f cdv A outer s H hr gd => ⟨_,
    (pss_cons (ps_set (i := 2) sc_scale_along.nd rfl (.inl rfl) (pe_glob (v := .ref _) (by rfl) mONE rfl))
      (pss_cons (ps_for PassesOwn.never rfl (RZ.pi_zipA (by rfl) M.n_zip (pa_cons (pv 1) (pa_cons (pe_slice sl_tup (pv 1) (po_some pe_int) po_none) pa_nil))) (pg_tup rfl (pgs_cons (pg_name (i := 3) sc_scale_along.nd rfl (.inl rfl)) (pgs_cons (pg_name (i := 4) sc_scale_along.nd rfl (.inl rfl)) pgs_nil)))
      (pss_one (ps_set (i := 2) sc_scale_along.nd rfl (.inl rfl) (pe_gf G_times hr (by decide) gd (by rfl) (pa_cons (pv 2) (pa_cons (pe_gf G_over hr (by decide) gd (by rfl) (pa_cons (pe_ix (ixT (K := K) rfl) (pe_ix (ixT (K := K) rfl) (pe_ix (ixT (K := K) rfl) (pv 0) pe_int (fun _ _ => rfl)) (pv 3) (fun _ _ => rfl)) (pv 4) (fun _ _ => rfl)) (pa_cons (pe_ix (ixT (K := K) rfl) (pe_ix (ixT (K := K) rfl) (pe_ix (ixT (K := K) rfl) (pv 0) pe_int (fun _ _ => rfl)) (pv 4) (fun _ _ => rfl)) (pv 3) (fun _ _ => rfl)) pa_nil))) pa_nil))))))
      (pss_one (ps_ret (pv 2))))), fun ks k h => ?_⟩
  cases h with
  | mk N s way hs hw hb =>
    have hne := hw.ne
    have hne2 : 0 < (intsD way).length := by rw [List.length_map]; exact hne
    have at_ : ∀ i, i < way.length → (intsD way)[i]? = some (.int ((way.getD i 0 : Nat) : Int)) := fun i hi => by
      rw [List.getElem?_map, List.getElem?_eq_getElem hi, List.getD_eq_getElem?_getD, List.getElem?_eq_getElem hi]
      rfl
    have e0 : (1 : Rat) = s (way.getD 0 0) / s (way.getD 0 0) := by rw [Rat.div_def, Rat.mul_inv_cancel _ (hs.nz _)]
    refine st_seq (Γ1 := [.im (netD N), .im (wayD way), .im (fr (s (way.getD 0 0) / s (way.getD 0 0))), .none, .none]) (st_set ((ev_gl vONE).as (k' := .im (fr (s (way.getD 0 0) / s (way.getD 0 0)))) (by rw [← e0]))) ?_
    refine st_seqP (N1 := fun Γ => ∃ s3 s4, Γ = [.im (netD N), .im (wayD way), .im (fr (s (way.getD (way.length - 1) 0) / s (way.getD 0 0))), s3, s4]) (st_forP (n := way.length - 1) (it_zipT (d1 := fun i => .int ((way.getD i 0 : Nat) : Int)) (d2 := fun i => .int ((way.getD (i + 1) 0 : Nat) : Int)) (av_cons ((ev_var rfl rfl)) (av_cons (ev_slFromT (n := 1) (ev_var rfl rfl) ev_int (by decide) hne2) av_nil)) ?_ ?_ ?_) (fun z => z)
      (fun i Γ => ∃ s3 s4, Γ = [.im (netD N), .im (wayD way), .im (fr (s (way.getD i 0) / s (way.getD 0 0))), s3, s4]) ⟨_, _, rfl⟩ ?_ (fun Γ h => h)) ?_
    · rw [List.length_drop, List.length_map]
      omega
    · intro i hi
      exact at_ i (by omega)
    · intro i hi
      rw [List.getElem?_drop, Nat.add_comm 1 i]
      exact at_ (i + 1) (by omega)
    · rintro i Γ hi ⟨s3, s4, rfl⟩
      have l1 := hw.lt i (by omega)
      have l2 := hw.lt (i + 1) (by omega)
      have hz := hw.tied i (by omega)
      have hz2 := hs.sym _ _ l1 l2 hz
      have q := hs.told _ _ l1 l2 hz
      refine (st_set (((ev_call (av_cons ((ev_var rfl rfl)) (av_cons ((ev_call (av_cons (ev_ixT (ev_ixT (ev_ixT (ev_var rfl rfl) ev_int rfl) (ev_var rfl rfl) (at_row l1)) (ev_var rfl rfl) (at_row l2)) (av_cons (ev_ixT (ev_ixT (ev_ixT (ev_var rfl rfl) ev_int rfl) (ev_var rfl rfl) (at_row l2)) (ev_var rfl rfl) (at_row l1)) av_nil)) (R_over.mk _ _ (hb.w _ _).to (hb.w _ _).to hz2))) av_nil)) (R_times.mk _ _ (s_rat hs _ _).to ?_))).as (k' := .im (fr (s (way.getD (i + 1) 0) / s (way.getD 0 0)))) ?_)).to (fun Γ e => ⟨.im (.int ((way.getD i 0 : Nat) : Int)), .im (.int ((way.getD (i + 1) 0 : Nat) : Int)), e.trans rfl⟩) fun _ z => z
      · rw [q]
        exact (s_rat hs _ _).to
      · rw [q, Rat.div_def, Rat.div_def, Rat.div_def]
        congr 2
        have n1 := hs.nz (way.getD i 0)
        rw [show s (way.getD i 0) * (s (way.getD 0 0))⁻¹ * (s (way.getD (i + 1) 0) * (s (way.getD i 0))⁻¹) = (s (way.getD i 0) * (s (way.getD i 0))⁻¹) * (s (way.getD (i + 1) 0) * (s (way.getD 0 0))⁻¹) by grind, Rat.mul_inv_cancel _ n1, Rat.one_mul]
    · rintro Γ ⟨s3, s4, rfl⟩
      exact st_ret (ev_var rfl rfl) rfl
/-- what the told scales c of the net are read from -/
structure Told (N : Net) (c : Nat → Rat) : Prop where
  ok : NetOk N
  sgn : ∀ i j, i < N.n → j < N.n → sg (N.W i j) = sg (N.W j i)
  grown : ∃ (out : Wy) (s : Nat → Rat), growTo N.n (adjN N) N.n = some out ∧ Rat2 N s ∧ ∀ i, i < N.n → (getW out i).isSome = true ∧ WayOk N (wayOf out i) ∧ c i = s ((wayOf out i).getD ((wayOf out i).length - 1) 0) / s ((wayOf out i).getD 0 0)
  bal : ∀ i j, i < N.n → j < N.n → c i * N.W i j = c j * N.W j i
  cbd : CBd c
inductive R_scales_or_against_by : List Kd → Kd → Prop
  | mk (N : Net) (c : Nat → Rat) (h : Told N c) : R_scales_or_against_by [.im (netD N)] (.im (.tup [.str "scales", rowF N.n c]))
theorem g_scales_or_against_by (M : Mods K mg) (G_pair_against : PFn P w K mg base T "pair_against" s_pair_against ["net"] 3 R_pair_against) (G_grown_tree : PFn P w K mg base T "grown_tree" s_grown_tree ["net"] 3 R_grown_tree) (G_scale_along : PFn P w K mg base T "scale_along" s_scale_along ["net", "way"] 3 R_scale_along) (G_many_cells : PFn P w K mg base T "many_cells" s_many_cells ["net"] 1 R_many_cells) (G_times : PFn P w K mg base T "times" s_times ["one", "two"] 2 R_times) : PFn P w K mg base T "scales_or_against_by" s_scales_or_against_by ["net"] 4 R_scales_or_against_by := by
  have G_ring_of := gf_never M.f_ring_of (ps := ["one", "two"]) (fun _ _ _ _ _ _ us hl => match us, hl with | [_, _], _ => rfl) (P := P) (w := w) (base := base) (k := 1)
  refine pf_of (T := T) M.f_scales_or_against_by sc_scales_or_against_by (fun ks k h => by cases h; rfl) (fun _ _ _ _ _ _ us hl => match us, hl with | [_], _ => rfl) fun f cdv A outer s H hr gd => ⟨_,
    (pss_cons (ps_for PassesOwn.never rfl (pi_list (pe_gf G_pair_against hr (by decide) gd (by rfl) (pa_cons (pv 0) pa_nil))) (pg_name (i := 1) sc_scales_or_against_by.nd rfl (.inl rfl))
      (pss_one (ps_ret (pe_tup (pa_cons pe_str (pa_cons (pv 1) pa_nil))))))
      (pss_cons (ps_set (i := 2) sc_scales_or_against_by.nd rfl (.inl rfl) (pe_gf G_grown_tree hr (by decide) gd (by rfl) (pa_cons (pv 0) pa_nil)))
      (pss_cons (ps_set (i := 3) sc_scales_or_against_by.nd rfl (.inl rfl) (pe_callTy (tupK (K := K) rfl) (by rfl) M.n_tuple PyProof.Rows.boot_tuple (pa_cons (pe_lc (own := [("way", 6)]) (g := gName 6) (tt := tYes) rfl sc_scales_or_against_by.nd (pi_list (pv 2)) (blkOk_by (N := nm_scales_or_against_by) (sc := defScope s_scales_or_against_by) (by decide +kernel)) (fun _ _ _ _ _ => (pg_name (i := 6) sc_scales_or_against_by.nd rfl (.inl rfl))) (fun _ _ _ _ _ => pts_nil) (fun _ _ _ _ _ => (pe_gf G_scale_along hr (by decide) gd (by rfl) (pa_cons (pv 0) (pa_cons (pv 6) pa_nil))))) pa_nil)))
      (pss_cons (ps_for PassesOwn.never rfl (pi_range1 (by rfl) M.n_range (pa_cons (pe_gf G_many_cells hr (by decide) gd (by rfl) (pa_cons (pv 0) pa_nil)) pa_nil)) (pg_name (i := 4) sc_scales_or_against_by.nd rfl (.inl rfl))
      (pss_one (ps_for PassesOwn.never rfl (pi_range1 (by rfl) M.n_range (pa_cons (pv 4) pa_nil)) (pg_name (i := 5) sc_scales_or_against_by.nd rfl (.inl rfl))
      (pss_one (ps_if (pt_cmpR (neDK (K := K) rfl hr.units) (pe_gf G_times hr (by decide) gd (by rfl) (pa_cons (pe_ix (ixT (K := K) rfl) (pv 3) (pv 4) (fun _ _ => rfl)) (pa_cons (pe_ix (ixT (K := K) rfl) (pe_ix (ixT (K := K) rfl) (pe_ix (ixT (K := K) rfl) (pv 0) pe_int (fun _ _ => rfl)) (pv 4) (fun _ _ => rfl)) (pv 5) (fun _ _ => rfl)) pa_nil))) (pe_gf G_times hr (by decide) gd (by rfl) (pa_cons (pe_ix (ixT (K := K) rfl) (pv 3) (pv 5) (fun _ _ => rfl)) (pa_cons (pe_ix (ixT (K := K) rfl) (pe_ix (ixT (K := K) rfl) (pe_ix (ixT (K := K) rfl) (pv 0) pe_int (fun _ _ => rfl)) (pv 5) (fun _ _ => rfl)) (pv 4) (fun _ _ => rfl)) pa_nil))) (nomark _)) (pss_one (ps_ret (pe_tup (pa_cons pe_str (pa_cons (pe_gf G_ring_of hr (by decide) gd (by rfl) (pa_cons (pe_ix (ixL (K := K) rfl) (pv 2) (pv 4) (fun _ _ => rfl)) (pa_cons (pe_ix (ixL (K := K) rfl) (pv 2) (pv 5) (fun _ _ => rfl)) pa_nil))) pa_nil))))) pss_nil)))))
      (pss_one (ps_ret (pe_tup (pa_cons pe_str (pa_cons (pv 3) pa_nil))))))))), fun ks k h => ?_⟩
  cases h with
  | mk N c h =>
    have hl := h.ok.le
    obtain ⟨out, s, hg, hs, hw⟩ := h.grown
    refine st_seq (Γ1 := [.im (netD N), .none, .none, .none, .none, .none, .none]) ((st_forP (w := false) (it_lst (ev_ls (ev_call (av_cons ((ev_var rfl rfl)) av_nil) (R_pair_against.mk _ hl h.sgn))) (dd := fun _ => .non) fun i hi => by cases hi) (fun z => nomatch z) (fun i Γ => Γ = [.im (netD N), .none, .none, .none, .none, .none, .none]) rfl (fun i Γ hi => by cases hi) (fun Γ e => e)).weak) ?_
    refine st_seq (Γ1 := [.im (netD N), .none, .ls ((List.range N.n).map fun c => wayD (wayOf out c)), .none, .none, .none, .none]) (st_setLs (ev_call (av_cons ((ev_var rfl rfl)) av_nil) (R_grown_tree.mk _ _ hl hg (fun i hi => (hw i hi).1)))) ?_
    have e : ((List.range N.n).map fun c => wayD (wayOf out c)).length = N.n := len_row
    refine st_seq (Γ1 := [.im (netD N), .none, .ls ((List.range N.n).map fun c => wayD (wayOf out c)), .im (rowF N.n c), .none, .none, .none]) (st_set ((ev_tupL (ev_ls (ev_lcA (it_lst (ev_var rfl rfl) (dd := fun i => wayD (wayOf out i)) fun i hi => get_row hi) (fun i hi => (ev_call (av_cons ((ev_var rfl rfl)) (av_cons ((ev_var rfl rfl)) av_nil)) (R_scale_along.mk _ s _ hs (hw i (by rw [e] at hi; exact hi)).2.1 h.ok.toWOk))) (by rw [e]; omega) (by decide)))).as (k' := .im (rowF N.n c)) ?_)) ?_
    · rw [e]
      congr 2
      refine List.map_congr_left fun i hi => ?_
      rw [← (hw i (List.mem_range.mp hi)).2.2]
    refine st_seqP (N1 := fun Γ => ∃ s4 s5, Γ = [.im (netD N), .none, .ls ((List.range N.n).map fun c => wayD (wayOf out c)), .im (rowF N.n c), s4, s5, .none]) (st_forP (n := N.n) (it_rngN (av_cons ((ev_call (av_cons ((ev_var rfl rfl)) av_nil) (R_many_cells.mk _))) av_nil) (by omega)) (fun z => z) (fun i Γ => ∃ s4 s5, Γ = [.im (netD N), .none, .ls ((List.range N.n).map fun c => wayD (wayOf out c)), .im (rowF N.n c), s4, s5, .none]) ⟨_, _, rfl⟩ ?_ (fun Γ h => h)) ?_
    · rintro i Γ hi ⟨s4, s5, rfl⟩
      refine (st_forP (n := i) (it_rngN (av_cons ((ev_var rfl rfl)) av_nil) (by omega)) (fun z => z) (fun j Γ => ∃ s5, Γ = [.im (netD N), .none, .ls ((List.range N.n).map fun c => wayD (wayOf out c)), .im (rowF N.n c), .im (.int ((i : Nat) : Int)), s5, .none]) ⟨_, rfl⟩ ?_ (fun Γ h => h)).to (fun Γ ⟨s5, e⟩ => ⟨_, s5, e⟩) fun _ z => z
      rintro j Γ hj ⟨s5, rfl⟩
      have hj' : j < N.n := by omega
      refine st_no ((tv_test (ev_neF (ev_call (av_cons (ev_ixT (ev_var rfl rfl) (ev_var rfl rfl) (at_row hi)) (av_cons (ev_ixT (ev_ixT (ev_ixT (ev_var rfl rfl) ev_int rfl) (ev_var rfl rfl) (at_row hi)) (ev_var rfl rfl) (at_row hj')) av_nil)) (R_times.mk _ _ (h.cbd _).to (h.ok.w _ _).to)) (ev_call (av_cons (ev_ixT (ev_var rfl rfl) (ev_var rfl rfl) (at_row hj')) (av_cons (ev_ixT (ev_ixT (ev_ixT (ev_var rfl rfl) ev_int rfl) (ev_var rfl rfl) (at_row hj')) (ev_var rfl rfl) (at_row hi)) av_nil)) (R_times.mk _ _ (h.cbd _).to (h.ok.w _ _).to)))).as ?_) (st_next.to (fun Γ e => ⟨_, e.trans rfl⟩) fun _ z => z)
      rw [h.bal i j hi hj', decide_eq_true rfl]
      rfl
    · rintro Γ ⟨s4, s5, rfl⟩
      exact st_ret (ev_tup (ds := [.str "scales", rowF N.n c]) (av_cons (ev_str) (av_cons ((ev_var rfl rfl)) av_nil))) rfl
inductive R_check_net : List Kd → Kd → Prop
  | mk (N : Net) (h : NetOk N) : R_check_net [.im (netD N)] (.im .non)
theorem g_check_net (M : Mods K mg) (G_is_net_by : PFn P w K mg base T "is_net_by" s_is_net_by ["value"] 4 R_is_net_by) : PFn P w K mg base T "check_net" s_check_net ["value"] 5 R_check_net := by
  refine pf_of (T := T) M.f_check_net sc_check_net (fun ks k h => by cases h; rfl) (fun _ _ _ _ _ _ us hl => match us, hl with | [_], _ => rfl) fun f cdv A outer s H hr gd => ⟨_,
    (pss_one (ps_if (pt_not (pt_val (pe_gf G_is_net_by hr (by decide) gd (by rfl) (pa_cons (pv 0) pa_nil)))) (pss_one ps_never) pss_nil)), fun ks k h => ?_⟩
  cases h with
  | mk N h =>
    exact st_no ((tv_not (tv_B (ev_call (av_cons ((ev_var rfl rfl)) av_nil) (R_is_net_by.mk _ h)))).as rfl) (st_next.to (fun _ _ => rfl) fun _ z => z)
inductive R_check_state : List Kd → Kd → Prop
  | mk (N : Net) (s : Nat) (h : N.n ≤ 4) : R_check_state [.im (netD N), .im (stD N.n s)] (.im .non)
theorem g_check_state (M : Mods K mg) (G_is_state_by : PFn P w K mg base T "is_state_by" s_is_state_by ["net", "value"] 3 R_is_state_by) : PFn P w K mg base T "check_state" s_check_state ["net", "value"] 4 R_check_state := by
  refine pf_of (T := T) M.f_check_state sc_check_state (fun ks k h => by cases h; rfl) (fun _ _ _ _ _ _ us hl => match us, hl with | [_, _], _ => rfl) fun f cdv A outer s H hr gd => ⟨_,
    (pss_one (ps_if (pt_not (pt_val (pe_gf G_is_state_by hr (by decide) gd (by rfl) (pa_cons (pv 0) (pa_cons (pv 1) pa_nil))))) (pss_one ps_never) pss_nil)), fun ks k h => ?_⟩
  cases h with
  | mk N s h =>
    exact st_no ((tv_not (tv_B (ev_call (av_cons ((ev_var rfl rfl)) (av_cons ((ev_var rfl rfl)) av_nil)) (R_is_state_by.mk _ _ h)))).as rfl) (st_next.to (fun _ _ => rfl) fun _ z => z)
inductive R_check_both : List Kd → Kd → Prop
  | mk (N : Net) (s : Nat) (h : NetOk N) : R_check_both [.im (netD N), .im (stD N.n s)] (.im .non)
theorem g_check_both (M : Mods K mg) (G_check_net : PFn P w K mg base T "check_net" s_check_net ["value"] 5 R_check_net) (G_check_state : PFn P w K mg base T "check_state" s_check_state ["net", "value"] 4 R_check_state) : PFn P w K mg base T "check_both" s_check_both ["net", "state"] 6 R_check_both := by
  refine pf_of (T := T) M.f_check_both sc_check_both (fun ks k h => by cases h; rfl) (fun _ _ _ _ _ _ us hl => match us, hl with | [_, _], _ => rfl) fun f cdv A outer s H hr gd => ⟨_,
    (pss_cons (ps_expr (pe_gf G_check_net hr (by decide) gd (by rfl) (pa_cons (pv 0) pa_nil)))
      (pss_one (ps_expr (pe_gf G_check_state hr (by decide) gd (by rfl) (pa_cons (pv 0) (pa_cons (pv 1) pa_nil)))))), fun ks k h => ?_⟩
  cases h with
  | mk N s h =>
    exact st_seq (st_drop (ev_call (av_cons ((ev_var rfl rfl)) av_nil) (R_check_net.mk _ h))) ((st_drop (ev_call (av_cons ((ev_var rfl rfl)) (av_cons ((ev_var rfl rfl)) av_nil)) (R_check_state.mk _ _ h.le))).to (fun _ _ => rfl) fun _ z => z)
inductive R_scales_for : List Kd → Kd → Prop
  | mk (N : Net) (c : Nat → Rat) (h : Told N c) : R_scales_for [.im (netD N)] (.im (rowF N.n c))
theorem g_scales_for (M : Mods K mg) (G_scales_or_against_by : PFn P w K mg base T "scales_or_against_by" s_scales_or_against_by ["net"] 4 R_scales_or_against_by) : PFn P w K mg base T "scales_for" s_scales_for ["net"] 5 R_scales_for := by
  refine pf_of (T := T) M.f_scales_for sc_scales_for (fun ks k h => by cases h; rfl) (fun _ _ _ _ _ _ us hl => match us, hl with | [_], _ => rfl) fun f cdv A outer s H hr gd => ⟨_,
    (pss_cons (ps_asg (pe_gf G_scales_or_against_by hr (by decide) gd (by rfl) (pa_cons (pv 0) pa_nil)) (pg_tup rfl (pgs_cons (pg_name (i := 1) sc_scales_for.nd rfl (.inl rfl)) (pgs_cons (pg_name (i := 2) sc_scales_for.nd rfl (.inl rfl)) pgs_nil))))
      (pss_cons (ps_if (pt_cmpR op_ne (pv 1) pe_str (nomark _)) (pss_one ps_never) pss_nil)
      (pss_one (ps_ret (pv 2))))), fun ks k h => ?_⟩
  cases h with
  | mk N c h =>
    refine st_seq (Γ1 := [.im (netD N), .im (.str "scales"), .im (rowF N.n c)]) (st_unp (ev_call (av_cons ((ev_var rfl rfl)) av_nil) (R_scales_or_against_by.mk _ _ h))) ?_
    refine st_seq (st_no ((tv_test (ev_neS (ev_var rfl rfl) ev_str)).as rfl) st_next) ?_
    exact st_ret (ev_var rfl rfl) rfl
end
end Hn
end

section
set_option Elab.async false
set_option linter.all false
set_option maxRecDepth 100000
set_option maxHeartbeats 1000000
namespace Hn
open PySem PySem.Spec PyProof.Rows L2 NdefX LamX HnQ
section
variable {P : Program} {w : World} {K : PySem.W.Frag} {mg : Str → Option Value} {base : Heap} {T : List NTab}
theorem bits_eq (n s : Nat) (g : Nat → Rat) : HnQ.sum (given n (fun i => decide (((bit s i : Nat) : Int) = 1)) g) = sm n fun i => if bit s i = 1 then g i else 0 := by
  rw [sum_given]
  refine sm_congr fun i _ => ?_
  by_cases h : bit s i = 1
  · rw [if_pos h, if_pos (by rw [h]; rfl)]
  · rw [if_neg h, if_neg (by intro z; exact h (by have := of_decide_eq_true z; omega))]
theorem rows_map (n : Nat) (f : Nat → Rat) : ((List.range n).map fun i => fr (f i)) = ((List.range n).map f).map fr := by
  rw [List.map_map]
  rfl
def spD : Option Rat → D
  | none => .non
  | some x => fr x
theorem overs_given (N : Net) (c : Nat) : given (2 ^ N.n) (fun s => decide ((heard N c s - N.M c).num > 0)) (fun s => fr (heard N c s - N.M c)) = (overs N c).map fr := by
  unfold given overs
  rw [List.filter_map, List.map_map]
  congr 2
  funext s
  exact num_pos (heard N c s - N.M c)
inductive R_spare_by : List Kd → Kd → Prop
  | mk (N : Net) (c : Nat) (h : NetOk N) (hc : c < N.n) : R_spare_by [.im (netD N), .im (.int ((c : Nat) : Int))] (.im (spD (spare N c)))
theorem g_spare_by (M : Mods K mg) (G_all_states : PFn P w K mg base T "all_states" s_all_states ["net"] 2 R_all_states) (G_minus : PFn P w K mg base T "minus" s_minus ["one", "two"] 2 R_minus) (G_heard_by : PFn P w K mg base T "heard_by" s_heard_by ["net", "cell", "state"] 4 R_heard_by) (G_least_of : PFn P w K mg base T "least_of" s_least_of ["fractions"] 2 R_least_of) : PFn P w K mg base T "spare_by" s_spare_by ["net", "cell"] 5 R_spare_by := by
  refine pf_of (T := T) M.f_spare_by sc_spare_by (fun ks k h => by cases h; rfl) (fun _ _ _ _ _ _ us hl => match us, hl with | [_, _], _ => rfl) fun f cdv A outer s H hr gd => ⟨_,
    (pss_cons (ps_setLc (i := 2) (own := [("state", 4)]) (g := gName 4) (tt := tYes) rfl sc_spare_by.nd rfl rfl (sw_true rfl rfl rfl (by decide +kernel)) (pi_list (pe_gf G_all_states hr (by decide) gd (by rfl) (pa_cons (pv 0) pa_nil))) (blkOk_by (N := nm_spare_by) (sc := defScope s_spare_by) (by decide +kernel)) (fun _ _ _ _ _ => (pg_name (i := 4) sc_spare_by.nd rfl (.inl rfl))) (fun _ _ _ _ _ => pts_nil) (fun _ _ _ _ _ => (pe_gf G_minus hr (by decide) gd (by rfl) (pa_cons (pe_gf G_heard_by hr (by decide) gd (by rfl) (pa_cons (pv 0) (pa_cons (pv 1) (pa_cons (pv 4) pa_nil)))) (pa_cons (pe_ix (ixT (K := K) rfl) (pe_ix (ixT (K := K) rfl) (pv 0) pe_int (fun _ _ => rfl)) (pv 1) (fun _ _ => rfl)) pa_nil)))))
      (pss_cons (ps_setLc (i := 3) (own := [("each", 5)]) (g := gName 5) rfl sc_spare_by.nd rfl rfl (sw_true rfl rfl rfl (by decide +kernel)) (pi_list (pv 2)) (blkOk_by (N := nm_spare_by) (sc := defScope s_spare_by) (by decide +kernel)) (fun _ _ _ _ _ => (pg_name (i := 5) sc_spare_by.nd rfl (.inl rfl))) (fun _ _ _ _ _ => (pts_one (pt_cmpR op_gt (pe_ix (ixT (K := K) rfl) (pv 5) pe_int (fun _ _ => rfl)) pe_int (nomark _)))) (fun _ _ _ _ _ => (pv 5)))
      (pss_one (ps_ret (pe_ifExp (pt_cmpR (neDK (K := K) rfl hr.units) (pv 3) (pe_lst pa_nil) (nomark _)) (pe_gf G_least_of hr (by decide) gd (by rfl) (pa_cons (pv 3) pa_nil)) pe_non))))), fun ks k h => ?_⟩
  cases h with
  | mk N c h hc =>
    have hl := h.le
    have hp := pow16 hl
    have e : ∀ {f : Nat → D}, ((List.range (2 ^ N.n)).map f).length = 2 ^ N.n := len_row
    have el : ∀ {f : Nat → D}, ((List.range (2 ^ N.n)).map f).length ≤ 10000 := by intro f; rw [e]; omega
    refine st_seq (Γ1 := [.im (netD N), .im (.int ((c : Nat) : Int)), .ls ((List.range (2 ^ N.n)).map fun s => fr (heard N c s - N.M c)), .none, .none, .none]) (st_setLs ((ev_lcA (it_lst (ev_ls (ev_call (av_cons ((ev_var rfl rfl)) av_nil) (R_all_states.mk _ hl))) (dd := fun s => stD N.n s) fun i hi => get_row hi) (fun i hi => (ev_call (av_cons ((ev_call (av_cons ((ev_var rfl rfl)) (av_cons ((ev_var rfl rfl)) (av_cons ((ev_var rfl rfl)) av_nil))) (R_heard_by.mk _ _ _ h.toWOk hc))) (av_cons (ev_ixT (ev_ixT (ev_var rfl rfl) ev_int rfl) (ev_var rfl rfl) (at_row hc)) av_nil)) (R_minus.mk _ _ (heard_bd h.toWOk _ _).to (h.m _).to))) (by rw [e]; omega) (by decide)).as (by rw [e]))) ?_
    refine st_seq (Γ1 := [.im (netD N), .im (.int ((c : Nat) : Int)), .ls ((List.range (2 ^ N.n)).map fun s => fr (heard N c s - N.M c)), .ls ((overs N c).map fr), .none, .none]) (st_setLs ((ev_lc (it_lst (ev_var rfl rfl) (dd := fun s => fr (heard N c s - N.M c)) fun i hi => get_row hi) (fun i hi => tv_test (ev_opB0 (ev_ixT (ev_var rfl rfl) ev_int rfl) ev_int)) (fun i hi _ => (ev_var rfl rfl)) (by rw [e]; omega) (by decide)).as (by rw [e, overs_given]))) ?_
    refine st_retP (ev_if (tv_test (ev_neNil (ev_var rfl rfl) (ev_ls (ev_lst (ds := []) av_nil)) ?_)) (fun z => EvP.of (p := fun k => k = .im (spD (spare N c))) (ev_call (av_cons ((ev_var rfl rfl)) av_nil) (R_least_of.mk _ ?_ ?_)) ?_) fun z => EvP.of (p := fun k => k = .im (spD (spare N c))) ev_non ?_) fun _ z => z
    · intro d hd
      obtain ⟨x, _, rfl⟩ := List.mem_map.mp hd
      exact cmp_fr x
    · intro x hx
      obtain ⟨s, _, rfl, _⟩ := over_of hx
      exact (over_bd h c s).to
    · intro z2
      rw [z2] at z
      cases z
    · unfold spare
      rw [if_neg]
      · rfl
      · intro z2
        rw [z2] at z
        cases z
    · unfold spare
      rw [if_pos]
      · rfl
      · cases q : overs N c with
        | nil => rfl
        | cons x xs => rw [q] at z; cases z
inductive R_step_by : List Kd → Kd → Prop
  | mk (N : Net) (c : Nat) (h : NetOk N) (hc : c < N.n) : R_step_by [.im (netD N), .im (.int ((c : Nat) : Int))] (.im (fr (step N c)))
theorem g_step_by (M : Mods K mg) (G_spare_by : PFn P w K mg base T "spare_by" s_spare_by ["net", "cell"] 5 R_spare_by) (G_times : PFn P w K mg base T "times" s_times ["one", "two"] 2 R_times) : PFn P w K mg base T "step_by" s_step_by ["net", "cell"] 6 R_step_by := by
  obtain ⟨aONE, mONE, vONE⟩ := M.ONE
  obtain ⟨aHALF, mHALF, vHALF⟩ := M.HALF
  refine pf_of (T := T) M.f_step_by sc_step_by (fun ks k h => by cases h; rfl) (fun _ _ _ _ _ _ us hl => match us, hl with | [_, _], _ => rfl) fun f cdv A outer s H hr gd => ⟨_,
    (pss_cons (ps_set (i := 2) sc_step_by.nd rfl (.inl rfl) (pe_gf G_spare_by hr (by decide) gd (by rfl) (pa_cons (pv 0) (pa_cons (pv 1) pa_nil))))
      (pss_one (ps_ret (pe_ifExp (pt_cmpR op_isNo (pv 2) pe_non (nomark _)) (pe_glob (v := .ref _) (by rfl) mONE rfl) (pe_gf G_times hr (by decide) gd (by rfl) (pa_cons (pe_glob (v := .ref _) (by rfl) mHALF rfl) (pa_cons (pv 2) pa_nil))))))), fun ks k h => ?_⟩
  cases h with
  | mk N c h hc =>
    refine st_seq (Γ1 := [.im (netD N), .im (.int ((c : Nat) : Int)), .im (spD (spare N c))]) (st_set (ev_call (av_cons ((ev_var rfl rfl)) (av_cons ((ev_var rfl rfl)) av_nil)) (R_spare_by.mk _ _ h hc))) ?_
    unfold HnQ.step
    cases q : spare N c with
    | none => exact st_retP (ev_if (b := true) (tv_test (ev_isN (d := spD none) (ev_var rfl rfl))) (fun _ => EvP.of (p := fun k => k = _) (ev_gl vONE) rfl) fun z => nomatch z) fun _ z => z
    | some x => exact st_retP (ev_if (b := false) (tv_test (ev_isN (d := spD (some x)) (ev_var rfl rfl))) (fun z => nomatch z) fun _ => EvP.of (p := fun k => k = _) (ev_call (av_cons (ev_gl vHALF) (av_cons ((ev_var rfl rfl)) av_nil)) (R_times.mk _ _ Bd.half.to (spare_bd h q).to)) rfl) fun _ z => z
theorem lift_row (N : Net) : Kd.im (.tup ((List.range ((List.range N.n).map fun i => fr (N.M i)).length).map fun i => fr (N.M i + HnQ.step N i))) = .im (rowF N.n (lift N).M) := by
  rw [len_row]
  rfl
inductive R_lifted_by : List Kd → Kd → Prop
  | mk (N : Net) (h : NetOk N) : R_lifted_by [.im (netD N)] (.im (netD (lift N)))
theorem g_lifted_by (M : Mods K mg) (G_plus : PFn P w K mg base T "plus" s_plus ["one", "two"] 2 R_plus) (G_step_by : PFn P w K mg base T "step_by" s_step_by ["net", "cell"] 6 R_step_by) : PFn P w K mg base T "lifted_by" s_lifted_by ["net"] 7 R_lifted_by := by
  refine pf_of (T := T) M.f_lifted_by sc_lifted_by (fun ks k h => by cases h; rfl) (fun _ _ _ _ _ _ us hl => match us, hl with | [_], _ => rfl) fun f cdv A outer s H hr gd => ⟨_,
    (pss_one (ps_ret (pe_tup (pa_cons (pe_ix (ixT (K := K) rfl) (pv 0) pe_int (fun _ _ => rfl)) (pa_cons (pe_callTy (tupK (K := K) rfl) (by rfl) M.n_tuple PyProof.Rows.boot_tuple (pa_cons (pe_lc (own := [("cell", 1), ("mark", 2)]) (g := gTup K 2 (gCons (gName 1) (gCons (gName 2) gNil))) (tt := tYes) rfl sc_lifted_by.nd (pi_ent (by rfl) M.n_enumerate (pa_cons (pe_ix (ixT (K := K) rfl) (pv 0) pe_int (fun _ _ => rfl)) pa_nil)) (blkOk_by (N := nm_lifted_by) (sc := defScope s_lifted_by) (by decide +kernel)) (fun _ _ _ _ _ => (pg_tup rfl (pgs_cons (pg_name (i := 1) sc_lifted_by.nd rfl (.inl rfl)) (pgs_cons (pg_name (i := 2) sc_lifted_by.nd rfl (.inl rfl)) pgs_nil)))) (fun _ _ _ _ _ => pts_nil) (fun _ _ _ _ _ => (pe_gf G_plus hr (by decide) gd (by rfl) (pa_cons (pv 2) (pa_cons (pe_gf G_step_by hr (by decide) gd (by rfl) (pa_cons (pv 0) (pa_cons (pv 1) pa_nil))) pa_nil))))) pa_nil)) pa_nil))))), fun ks k h => ?_⟩
  cases h with
  | mk N h =>
    have hl := h.le
    have e : ∀ {f : Nat → D}, ((List.range N.n).map f).length = N.n := len_row
    have el : ∀ {f : Nat → D}, ((List.range N.n).map f).length ≤ 10000 := by intro f; rw [e]; omega
    exact st_ret (ev_tup (ds := [rowD N.n fun i => rowF N.n (N.W i), rowF N.n (lift N).M]) (av_cons (ev_ixT (ev_var rfl rfl) ev_int rfl) (av_cons ((ev_tupL (ev_ls (ev_lcA (it_ent (av_cons (ev_ixT (ev_var rfl rfl) ev_int rfl) av_nil) (dd := fun i => fr (N.M i)) fun i hi => get_row hi) (fun i hi => (ev_call (av_cons ((ev_var rfl rfl)) (av_cons ((ev_call (av_cons ((ev_var rfl rfl)) (av_cons ((ev_var rfl rfl)) av_nil)) (R_step_by.mk _ _ h (e ▸ hi)))) av_nil)) (R_plus.mk _ _ (h.m _).to (step_bd h _).to))) el (by decide)))).as (lift_row N)) av_nil))) rfl
inductive R_drop_by : List Kd → Kd → Prop
  | mk (N : Net) (c : Nat → Rat) (h : NetOk N) (hc : CBd c) : R_drop_by [.im (netD N), .im (rowF N.n c)] (.im (fr (dropR N c)))
theorem g_drop_by (M : Mods K mg) (G_least_of : PFn P w K mg base T "least_of" s_least_of ["fractions"] 2 R_least_of) (G_many_cells : PFn P w K mg base T "many_cells" s_many_cells ["net"] 1 R_many_cells) (G_times : PFn P w K mg base T "times" s_times ["one", "two"] 2 R_times) (G_step_by : PFn P w K mg base T "step_by" s_step_by ["net", "cell"] 6 R_step_by) : PFn P w K mg base T "drop_by" s_drop_by ["net", "scales"] 7 R_drop_by := by
  refine pf_of (T := T) M.f_drop_by sc_drop_by (fun ks k h => by cases h; rfl) (fun _ _ _ _ _ _ us hl => match us, hl with | [_, _], _ => rfl) fun f cdv A outer s H hr gd => ⟨_,
    (pss_one (ps_ret (pe_gf G_least_of hr (by decide) gd (by rfl) (pa_cons (pe_lc (own := [("cell", 2)]) (g := gName 2) (tt := tYes) rfl sc_drop_by.nd (pi_range1 (by rfl) M.n_range (pa_cons (pe_gf G_many_cells hr (by decide) gd (by rfl) (pa_cons (pv 0) pa_nil)) pa_nil)) (blkOk_by (N := nm_drop_by) (sc := defScope s_drop_by) (by decide +kernel)) (fun _ _ _ _ _ => (pg_name (i := 2) sc_drop_by.nd rfl (.inl rfl))) (fun _ _ _ _ _ => pts_nil) (fun _ _ _ _ _ => (pe_gf G_times hr (by decide) gd (by rfl) (pa_cons (pe_ix (ixT (K := K) rfl) (pv 1) (pv 2) (fun _ _ => rfl)) (pa_cons (pe_gf G_step_by hr (by decide) gd (by rfl) (pa_cons (pv 0) (pa_cons (pv 2) pa_nil))) pa_nil))))) pa_nil)))), fun ks k h => ?_⟩
  cases h with
  | mk N c h hc =>
    have hl := h.le
    refine st_ret (ev_call (av_cons (ev_ls ((ev_lcA (dd := fun i => fr (c i * HnQ.step N i)) (it_rngN (av_cons ((ev_call (av_cons ((ev_var rfl rfl)) av_nil) (R_many_cells.mk _))) av_nil) (by omega)) (fun i hi => (ev_call (av_cons (ev_ixT (ev_var rfl rfl) (ev_var rfl rfl) (at_row hi)) (av_cons ((ev_call (av_cons ((ev_var rfl rfl)) (av_cons ((ev_var rfl rfl)) av_nil)) (R_step_by.mk _ _ h hi))) av_nil)) (R_times.mk _ _ (hc _).to (step_bd h _).to))) (by omega) (by decide)).as (congrArg Kd.fl (rows_map _ _)))) av_nil) (R_least_of.mk _ ?_ (range_ne h.pos))) rfl
    intro x hx
    obtain ⟨i, _, rfl⟩ := List.mem_map.mp hx
    exact ((hc i).mul (step_bd h i)).to
inductive R_check_states : List Kd → Kd → Prop
  | mk (N : Net) (s o : Nat) (h : NetOk N) : R_check_states [.im (netD N), .im (stD N.n s), .im (stD N.n o)] (.im .non)
theorem g_check_states (M : Mods K mg) (G_check_both : PFn P w K mg base T "check_both" s_check_both ["net", "state"] 6 R_check_both) (G_check_state : PFn P w K mg base T "check_state" s_check_state ["net", "value"] 4 R_check_state) : PFn P w K mg base T "check_states" s_check_states ["net", "state", "other"] 7 R_check_states := by
  refine pf_of (T := T) M.f_check_states sc_check_states (fun ks k h => by cases h; rfl) (fun _ _ _ _ _ _ us hl => match us, hl with | [_, _, _], _ => rfl) fun f cdv A outer s H hr gd => ⟨_,
    (pss_cons (ps_expr (pe_gf G_check_both hr (by decide) gd (by rfl) (pa_cons (pv 0) (pa_cons (pv 1) pa_nil))))
      (pss_one (ps_expr (pe_gf G_check_state hr (by decide) gd (by rfl) (pa_cons (pv 0) (pa_cons (pv 2) pa_nil)))))), fun ks k h => ?_⟩
  cases h with
  | mk N s o h =>
    exact st_seq (st_drop (ev_call (av_cons ((ev_var rfl rfl)) (av_cons ((ev_var rfl rfl)) av_nil)) (R_check_both.mk _ _ h))) ((st_drop (ev_call (av_cons ((ev_var rfl rfl)) (av_cons ((ev_var rfl rfl)) av_nil)) (R_check_state.mk _ _ h.le))).to (fun _ _ => rfl) fun _ z => z)
inductive R_marks_of : List Kd → Kd → Prop
  | mk (N : Net) (c : Nat → Rat) (s : Nat) (h : LOk N) (hc : CBd c) : R_marks_of [.im (netD N), .im (rowF N.n c), .im (stD N.n s)] (.im (fr (marks N c s)))
theorem g_marks_of (M : Mods K mg) (G_total : PFn P w K mg base T "total" s_total ["fractions"] 3 R_total) (G_times : PFn P w K mg base T "times" s_times ["one", "two"] 2 R_times) : PFn P w K mg base T "marks_of" s_marks_of ["lifted", "scales", "state"] 4 R_marks_of := by
  refine pf_of (T := T) M.f_marks_of sc_marks_of (fun ks k h => by cases h; rfl) (fun _ _ _ _ _ _ us hl => match us, hl with | [_, _, _], _ => rfl) fun f cdv A outer s H hr gd => ⟨_,
    (pss_one (ps_ret (pe_gf G_total hr (by decide) gd (by rfl) (pa_cons (pe_lc (own := [("cell", 3), ("each", 4)]) (g := gTup K 2 (gCons (gName 3) (gCons (gName 4) gNil))) rfl sc_marks_of.nd (pi_ent (by rfl) M.n_enumerate (pa_cons (pv 2) pa_nil)) (blkOk_by (N := nm_marks_of) (sc := defScope s_marks_of) (by decide +kernel)) (fun _ _ _ _ _ => (pg_tup rfl (pgs_cons (pg_name (i := 3) sc_marks_of.nd rfl (.inl rfl)) (pgs_cons (pg_name (i := 4) sc_marks_of.nd rfl (.inl rfl)) pgs_nil)))) (fun _ _ _ _ _ => (pts_one (pt_cmpR op_eq (pv 4) pe_int (nomark _)))) (fun _ _ _ _ _ => (pe_gf G_times hr (by decide) gd (by rfl) (pa_cons (pe_ix (ixT (K := K) rfl) (pv 1) (pv 3) (fun _ _ => rfl)) (pa_cons (pe_ix (ixT (K := K) rfl) (pe_ix (ixT (K := K) rfl) (pv 0) pe_int (fun _ _ => rfl)) (pv 3) (fun _ _ => rfl)) pa_nil))))) pa_nil)))), fun ks k h => ?_⟩
  cases h with
  | mk N c s h hc =>
    have hl := h.le
    have e : ∀ {f : Nat → D}, ((List.range N.n).map f).length = N.n := len_row
    have el : ∀ {f : Nat → D}, ((List.range N.n).map f).length ≤ 10000 := by intro f; rw [e]; omega
    unfold marks
    rw [← bits_eq]
    refine st_ret (ev_call (av_cons (ev_ls ((ev_lc (it_ent (av_cons ((ev_var rfl rfl)) av_nil) (dd := fun i => .int ((bit s i : Nat) : Int)) fun i hi => get_row hi) (fun i hi => tv_test (ev_eqI (ev_var rfl rfl) ev_int)) (fun i hi _ => (ev_call (av_cons (ev_ixT (ev_var rfl rfl) (ev_var rfl rfl) (at_row (e ▸ hi))) (av_cons (ev_ixT (ev_ixT (ev_var rfl rfl) ev_int rfl) (ev_var rfl rfl) (at_row (e ▸ hi))) av_nil)) (R_times.mk _ _ (hc _).to (h.m _).to))) el (by decide)).as (k' := .fl ((given N.n (fun i => decide (((bit s i : Nat) : Int) = 1)) fun i => c i * N.M i).map fr)) (by rw [e, given_map fr]))) av_nil) (total_mk (a := 78) (b := 51) (fun x hx => ?_) (Nat.le_trans (given_le _ _ _) hl))) rfl
    obtain ⟨i, _, _, rfl⟩ := given_mem hx
    exact ((hc i).mul (h.m i)).to
inductive R_level_of : List Kd → Kd → Prop
  | mk (N : Net) (c : Nat → Rat) (o s : Nat) (h : LOk N) (hc : CBd c) : R_level_of [.im (netD N), .im (rowF N.n c), .im (stD N.n o), .im (stD N.n s)] (.im (fr (HnQ.level N c o s)))
theorem g_level_of (M : Mods K mg) (G_total : PFn P w K mg base T "total" s_total ["fractions"] 3 R_total) (G_times : PFn P w K mg base T "times" s_times ["one", "two"] 2 R_times) (G_heard_by : PFn P w K mg base T "heard_by" s_heard_by ["net", "cell", "state"] 4 R_heard_by) (G_minus : PFn P w K mg base T "minus" s_minus ["one", "two"] 2 R_minus) (G_plus : PFn P w K mg base T "plus" s_plus ["one", "two"] 2 R_plus) (G_marks_of : PFn P w K mg base T "marks_of" s_marks_of ["lifted", "scales", "state"] 4 R_marks_of) : PFn P w K mg base T "level_of" s_level_of ["lifted", "scales", "other", "state"] 5 R_level_of := by
  refine pf_of (T := T) M.f_level_of sc_level_of (fun ks k h => by cases h; rfl) (fun _ _ _ _ _ _ us hl => match us, hl with | [_, _, _, _], _ => rfl) fun f cdv A outer s H hr gd => ⟨_,
    (pss_cons (ps_set (i := 4) sc_level_of.nd rfl (.inl rfl) (pe_gf G_total hr (by decide) gd (by rfl) (pa_cons (pe_lc (own := [("cell", 5), ("each", 6)]) (g := gTup K 2 (gCons (gName 5) (gCons (gName 6) gNil))) rfl sc_level_of.nd (pi_ent (by rfl) M.n_enumerate (pa_cons (pv 2) pa_nil)) (blkOk_by (N := nm_level_of) (sc := defScope s_level_of) (by decide +kernel)) (fun _ _ _ _ _ => (pg_tup rfl (pgs_cons (pg_name (i := 5) sc_level_of.nd rfl (.inl rfl)) (pgs_cons (pg_name (i := 6) sc_level_of.nd rfl (.inl rfl)) pgs_nil)))) (fun _ _ _ _ _ => (pts_one (pt_cmpR op_eq (pv 6) pe_int (nomark _)))) (fun _ _ _ _ _ => (pe_gf G_times hr (by decide) gd (by rfl) (pa_cons (pe_ix (ixT (K := K) rfl) (pv 1) (pv 5) (fun _ _ => rfl)) (pa_cons (pe_gf G_heard_by hr (by decide) gd (by rfl) (pa_cons (pv 0) (pa_cons (pv 5) (pa_cons (pv 3) pa_nil)))) pa_nil))))) pa_nil)))
      (pss_one (ps_ret (pe_gf G_minus hr (by decide) gd (by rfl) (pa_cons (pe_gf G_plus hr (by decide) gd (by rfl) (pa_cons (pe_gf G_marks_of hr (by decide) gd (by rfl) (pa_cons (pv 0) (pa_cons (pv 1) (pa_cons (pv 2) pa_nil)))) (pa_cons (pe_gf G_marks_of hr (by decide) gd (by rfl) (pa_cons (pv 0) (pa_cons (pv 1) (pa_cons (pv 3) pa_nil)))) pa_nil))) (pa_cons (pv 4) pa_nil)))))), fun ks k h => ?_⟩
  cases h with
  | mk N c o s h hc =>
    have hl := h.le
    have e : ∀ {f : Nat → D}, ((List.range N.n).map f).length = N.n := len_row
    have el : ∀ {f : Nat → D}, ((List.range N.n).map f).length ≤ 10000 := by intro f; rw [e]; omega
    have e2 : ties N c o s = HnQ.sum (given N.n (fun i => decide (((bit o i : Nat) : Int) = 1)) fun i => c i * heard N i s) := by
      unfold ties
      rw [← bits_eq]
    refine st_seq (Γ1 := [.im (netD N), .im (rowF N.n c), .im (stD N.n o), .im (stD N.n s), .im (fr (ties N c o s)), .none, .none]) (st_set ((ev_call (av_cons (ev_ls ((ev_lc (it_ent (av_cons ((ev_var rfl rfl)) av_nil) (dd := fun i => .int ((bit o i : Nat) : Int)) fun i hi => get_row hi) (fun i hi => tv_test (ev_eqI (ev_var rfl rfl) ev_int)) (fun i hi _ => (ev_call (av_cons (ev_ixT (ev_var rfl rfl) (ev_var rfl rfl) (at_row (e ▸ hi))) (av_cons ((ev_call (av_cons ((ev_var rfl rfl)) (av_cons ((ev_var rfl rfl)) (av_cons ((ev_var rfl rfl)) av_nil))) (R_heard_by.mk _ _ _ h.toWOk (e ▸ hi)))) av_nil)) (R_times.mk _ _ (hc _).to (heard_bd h.toWOk _ _).to))) el (by decide)).as (k' := .fl ((given N.n (fun i => decide (((bit o i : Nat) : Int) = 1)) fun i => c i * heard N i s).map fr)) (by rw [e, given_map fr]))) av_nil) (total_mk (a := 63) (b := 37) (fun x hx => ?_) (Nat.le_trans (given_le _ _ _) hl))).as (k' := .im (fr (ties N c o s))) (by rw [e2]))) ?_
    · obtain ⟨i, _, _, rfl⟩ := given_mem hx
      exact ((hc i).mul (heard_bd h.toWOk i s)).to
    · exact st_ret (ev_call (av_cons ((ev_call (av_cons ((ev_call (av_cons ((ev_var rfl rfl)) (av_cons ((ev_var rfl rfl)) (av_cons ((ev_var rfl rfl)) av_nil))) (R_marks_of.mk _ _ _ h hc))) (av_cons ((ev_call (av_cons ((ev_var rfl rfl)) (av_cons ((ev_var rfl rfl)) (av_cons ((ev_var rfl rfl)) av_nil))) (R_marks_of.mk _ _ _ h hc))) av_nil)) (R_plus.mk _ _ (marks_bd h hc _).to (marks_bd h hc _).to))) (av_cons ((ev_var rfl rfl)) av_nil)) (R_minus.mk _ _ ((marks_bd h hc _).add (marks_bd h hc _)).to (ties_bd h.toWOk hc _ _).to)) rfl
inductive R_next_level : List Kd → Kd → Prop
  | mk (N : Net) (c : Nat → Rat) (s : Nat) (h : NetOk N) (hc : CBd c) : R_next_level [.im (netD N), .im (rowF N.n c), .im (stD N.n s)] (.im (fr (nextE N c s)))
theorem g_next_level (M : Mods K mg) (G_level_of : PFn P w K mg base T "level_of" s_level_of ["lifted", "scales", "other", "state"] 5 R_level_of) (G_wanted_by : PFn P w K mg base T "wanted_by" s_wanted_by ["net", "state"] 5 R_wanted_by) (G_lifted_by : PFn P w K mg base T "lifted_by" s_lifted_by ["net"] 7 R_lifted_by) : PFn P w K mg base T "next_level" s_next_level ["net", "scales", "state"] 8 R_next_level := by
  refine pf_of (T := T) M.f_next_level sc_next_level (fun ks k h => by cases h; rfl) (fun _ _ _ _ _ _ us hl => match us, hl with | [_, _, _], _ => rfl) fun f cdv A outer s H hr gd => ⟨_,
    (pss_one (ps_ret (pe_gf G_level_of hr (by decide) gd (by rfl) (pa_cons (pe_gf G_lifted_by hr (by decide) gd (by rfl) (pa_cons (pv 0) pa_nil)) (pa_cons (pv 1) (pa_cons (pe_gf G_wanted_by hr (by decide) gd (by rfl) (pa_cons (pv 0) (pa_cons (pv 2) pa_nil))) (pa_cons (pv 2) pa_nil))))))), fun ks k h => ?_⟩
  cases h with
  | mk N c s h hc =>
    exact st_ret (ev_call (av_cons ((ev_call (av_cons ((ev_var rfl rfl)) av_nil) (R_lifted_by.mk _ h))) (av_cons ((ev_var rfl rfl)) (av_cons ((ev_call (av_cons ((ev_var rfl rfl)) (av_cons ((ev_var rfl rfl)) av_nil)) (R_wanted_by.mk _ _ h))) (av_cons ((ev_var rfl rfl)) av_nil)))) (R_level_of.mk (lift N) c (next N s) s (lift_ok h) hc)) rfl
theorem dropR_pos {N : Net} {c : Nat → Rat} (h : WOk N) (hc : ∀ i, 0 < c i) : 0 < dropR N c := by
  obtain ⟨i, _, e⟩ := dropR_mem (c := c) h
  rw [e]
  exact Rat.mul_pos (hc i) (step_pos i)
inductive R_most_steps_by : List Kd → Kd → Prop
  | mk (N : Net) (c : Nat → Rat) (s : Nat) (h : NetOk N) (hc : CBd c) (hp : ∀ i, 0 < c i) : R_most_steps_by [.im (netD N), .im (rowF N.n c), .im (stD N.n s)] (.im (.int (most N c s)))
theorem g_most_steps_by (M : Mods K mg) (G_lifted_by : PFn P w K mg base T "lifted_by" s_lifted_by ["net"] 7 R_lifted_by) (G_least_of : PFn P w K mg base T "least_of" s_least_of ["fractions"] 2 R_least_of) (G_all_states : PFn P w K mg base T "all_states" s_all_states ["net"] 2 R_all_states) (G_level_of : PFn P w K mg base T "level_of" s_level_of ["lifted", "scales", "other", "state"] 5 R_level_of) (G_wanted_by : PFn P w K mg base T "wanted_by" s_wanted_by ["net", "state"] 5 R_wanted_by) (G_over : PFn P w K mg base T "over" s_over ["one", "two"] 2 R_over) (G_drop_by : PFn P w K mg base T "drop_by" s_drop_by ["net", "scales"] 7 R_drop_by) (G_minus : PFn P w K mg base T "minus" s_minus ["one", "two"] 2 R_minus) (G_next_level : PFn P w K mg base T "next_level" s_next_level ["net", "scales", "state"] 8 R_next_level) : PFn P w K mg base T "most_steps_by" s_most_steps_by ["net", "scales", "state"] 9 R_most_steps_by := by
  refine pf_of (T := T) M.f_most_steps_by sc_most_steps_by (fun ks k h => by cases h; rfl) (fun _ _ _ _ _ _ us hl => match us, hl with | [_, _, _], _ => rfl) fun f cdv A outer s H hr gd => ⟨_,
    (pss_cons (ps_set (i := 3) sc_most_steps_by.nd rfl (.inr rfl) (pe_gf G_lifted_by hr (by decide) gd (by rfl) (pa_cons (pv 0) pa_nil)))
      (pss_cons (ps_set (i := 4) sc_most_steps_by.nd rfl (.inl rfl) (pe_gf G_least_of hr (by decide) gd (by rfl) (pa_cons (pe_lc (own := [("each", 6)]) (g := gName 6) (tt := tYes) rfl sc_most_steps_by.nd (pi_list (pe_gf G_all_states hr (by decide) gd (by rfl) (pa_cons (pv 0) pa_nil))) (blkOk_by (N := nm_most_steps_by) (sc := defScope s_most_steps_by) (by decide +kernel)) (fun _ _ _ _ _ => (pg_name (i := 6) sc_most_steps_by.nd rfl (.inl rfl))) (fun _ _ _ _ _ => pts_nil) (fun _ _ _ _ _ => (pe_gf G_level_of hr (by decide) gd (by rfl) (pa_cons (pv 3) (pa_cons (pv 1) (pa_cons (pe_gf G_wanted_by hr (by decide) gd (by rfl) (pa_cons (pv 0) (pa_cons (pv 6) pa_nil))) (pa_cons (pv 6) pa_nil))))))) pa_nil)))
      (pss_cons (ps_set (i := 5) sc_most_steps_by.nd rfl (.inl rfl) (pe_gf G_over hr (by decide) gd (by rfl) (pa_cons (pe_gf G_minus hr (by decide) gd (by rfl) (pa_cons (pe_gf G_next_level hr (by decide) gd (by rfl) (pa_cons (pv 0) (pa_cons (pv 1) (pa_cons (pv 2) pa_nil)))) (pa_cons (pv 4) pa_nil))) (pa_cons (pe_gf G_drop_by hr (by decide) gd (by rfl) (pa_cons (pv 0) (pa_cons (pv 1) pa_nil))) pa_nil))))
      (pss_one (ps_ret (pe_op op_fdivZ (pe_ix (ixT (K := K) rfl) (pv 5) pe_int (fun _ _ => rfl)) (pe_ix (ixT (K := K) rfl) (pv 5) pe_int (fun _ _ => rfl)))))))), fun ks k h => ?_⟩
  cases h with
  | mk N c s h hc hp =>
    have hl := h.le
    have h16 := pow16 hl
    have e : ∀ {f : Nat → D}, ((List.range (2 ^ N.n)).map f).length = 2 ^ N.n := len_row
    have el : ∀ {f : Nat → D}, ((List.range (2 ^ N.n)).map f).length ≤ 10000 := by intro f; rw [e]; omega
    have hd : dropR N c ≠ 0 := fun z => by
      have q := dropR_pos h.toWOk hp
      rw [z] at q
      exact absurd q (by decide)
    have sb := ((nextE_bd h hc s).sub (leastE_bd h hc)).div (dropR_bd h hc) hd
    have sm1 : Small ((nextE N c s - leastE N c) / dropR N c) := sb.to
    refine st_seq (Γ1 := [.im (netD N), .im (rowF N.n c), .im (stD N.n s), .im (netD (lift N)), .none, .none, .none]) (st_set (ev_call (av_cons ((ev_var rfl rfl)) av_nil) (R_lifted_by.mk _ h))) ?_
    refine st_seq (Γ1 := [.im (netD N), .im (rowF N.n c), .im (stD N.n s), .im (netD (lift N)), .im (fr (leastE N c)), .none, .none]) (st_set (ev_call (av_cons (ev_ls ((ev_lcA (it_lst (ev_ls (ev_call (av_cons ((ev_var rfl rfl)) av_nil) (R_all_states.mk _ hl))) (dd := fun s => stD N.n s) fun i hi => get_row hi) (fun i hi => (ev_call (av_cons ((ev_var rfl rfl)) (av_cons ((ev_var rfl rfl)) (av_cons ((ev_call (av_cons ((ev_var rfl rfl)) (av_cons ((ev_var rfl rfl)) av_nil)) (R_wanted_by.mk _ _ h))) (av_cons ((ev_var rfl rfl)) av_nil)))) (R_level_of.mk (lift N) c (next N i) i (lift_ok h) hc))) el (by decide)).as (k' := .fl (((List.range (2 ^ N.n)).map fun s => HnQ.level (lift N) c (next N s) s).map fr)) (by rw [e, ← rows_map]))) av_nil) (R_least_of.mk _ ?_ (range_ne (Nat.two_pow_pos _))))) ?_
    · intro x hx
      obtain ⟨i, _, rfl⟩ := List.mem_map.mp hx
      exact (level_bd (lift_ok h) hc _ _).to
    refine st_seq (Γ1 := [.im (netD N), .im (rowF N.n c), .im (stD N.n s), .im (netD (lift N)), .im (fr (leastE N c)), .im (fr ((nextE N c s - leastE N c) / dropR N c)), .none]) (st_set (ev_call (av_cons ((ev_call (av_cons ((ev_call (av_cons ((ev_var rfl rfl)) (av_cons ((ev_var rfl rfl)) (av_cons ((ev_var rfl rfl)) av_nil))) (R_next_level.mk _ _ _ h hc))) (av_cons ((ev_var rfl rfl)) av_nil)) (R_minus.mk _ _ (nextE_bd h hc s).to (leastE_bd h hc).to))) (av_cons ((ev_call (av_cons ((ev_var rfl rfl)) (av_cons ((ev_var rfl rfl)) av_nil)) (R_drop_by.mk _ _ h hc))) av_nil)) (R_over.mk _ _ ((nextE_bd h hc s).sub (leastE_bd h hc)).to (dropR_bd h hc).to hd))) ?_
    refine st_ret (ev_opI (ev_ixT (ev_var rfl rfl) ev_int rfl) (ev_ixT (ev_var rfl rfl) ev_int rfl) ⟨den_ne _, ?_⟩) ?_
    · have := log4 (B4.d sm1)
      omega
    · rw [floor_eq]
      rfl
inductive R_level : List Kd → Kd → Prop
  | mk (N : Net) (c : Nat → Rat) (o s : Nat) (h : Told N c) : R_level [.im (netD N), .im (stD N.n o), .im (stD N.n s)] (.im (fr (HnQ.level (lift N) c o s)))
theorem g_level (M : Mods K mg) (G_check_states : PFn P w K mg base T "check_states" s_check_states ["net", "state", "other"] 7 R_check_states) (G_level_of : PFn P w K mg base T "level_of" s_level_of ["lifted", "scales", "other", "state"] 5 R_level_of) (G_scales_for : PFn P w K mg base T "scales_for" s_scales_for ["net"] 5 R_scales_for) (G_lifted_by : PFn P w K mg base T "lifted_by" s_lifted_by ["net"] 7 R_lifted_by) : PFn P w K mg base T "level" s_level ["net", "other", "state"] 8 R_level := by
  refine pf_of (T := T) M.f_level sc_level (fun ks k h => by cases h; rfl) (fun _ _ _ _ _ _ us hl => match us, hl with | [_, _, _], _ => rfl) fun f cdv A outer s H hr gd => ⟨_,
    (pss_cons (ps_expr (pe_gf G_check_states hr (by decide) gd (by rfl) (pa_cons (pv 0) (pa_cons (pv 1) (pa_cons (pv 2) pa_nil)))))
      (pss_one (ps_ret (pe_gf G_level_of hr (by decide) gd (by rfl) (pa_cons (pe_gf G_lifted_by hr (by decide) gd (by rfl) (pa_cons (pv 0) pa_nil)) (pa_cons (pe_gf G_scales_for hr (by decide) gd (by rfl) (pa_cons (pv 0) pa_nil)) (pa_cons (pv 1) (pa_cons (pv 2) pa_nil)))))))), fun ks k h => ?_⟩
  cases h with
  | mk N c o s h =>
    exact st_seq (st_drop (ev_call (av_cons ((ev_var rfl rfl)) (av_cons ((ev_var rfl rfl)) (av_cons ((ev_var rfl rfl)) av_nil))) (R_check_states.mk _ _ _ h.ok))) (st_ret (ev_call (av_cons ((ev_call (av_cons ((ev_var rfl rfl)) av_nil) (R_lifted_by.mk _ h.ok))) (av_cons ((ev_call (av_cons ((ev_var rfl rfl)) av_nil) (R_scales_for.mk _ _ h))) (av_cons ((ev_var rfl rfl)) (av_cons ((ev_var rfl rfl)) av_nil)))) (R_level_of.mk (lift N) c o s (lift_ok h.ok) h.cbd)) rfl)
inductive R_most_steps : List Kd → Kd → Prop
  | mk (N : Net) (c : Nat → Rat) (s : Nat) (h : Told N c) (hp : ∀ i, 0 < c i) : R_most_steps [.im (netD N), .im (stD N.n s)] (.im (.int (most N c s)))
theorem g_most_steps (M : Mods K mg) (G_check_both : PFn P w K mg base T "check_both" s_check_both ["net", "state"] 6 R_check_both) (G_most_steps_by : PFn P w K mg base T "most_steps_by" s_most_steps_by ["net", "scales", "state"] 9 R_most_steps_by) (G_scales_for : PFn P w K mg base T "scales_for" s_scales_for ["net"] 5 R_scales_for) : PFn P w K mg base T "most_steps" s_most_steps ["net", "state"] 10 R_most_steps := by
  refine pf_of (T := T) M.f_most_steps sc_most_steps (fun ks k h => by cases h; rfl) (fun _ _ _ _ _ _ us hl => match us, hl with | [_, _], _ => rfl) fun f cdv A outer s H hr gd => ⟨_,
    (pss_cons (ps_expr (pe_gf G_check_both hr (by decide) gd (by rfl) (pa_cons (pv 0) (pa_cons (pv 1) pa_nil))))
      (pss_one (ps_ret (pe_gf G_most_steps_by hr (by decide) gd (by rfl) (pa_cons (pv 0) (pa_cons (pe_gf G_scales_for hr (by decide) gd (by rfl) (pa_cons (pv 0) pa_nil)) (pa_cons (pv 1) pa_nil))))))), fun ks k h => ?_⟩
  cases h with
  | mk N c s h hp =>
    exact st_seq (st_drop (ev_call (av_cons ((ev_var rfl rfl)) (av_cons ((ev_var rfl rfl)) av_nil)) (R_check_both.mk _ _ h.ok))) (st_ret (ev_call (av_cons ((ev_var rfl rfl)) (av_cons ((ev_call (av_cons ((ev_var rfl rfl)) av_nil) (R_scales_for.mk _ _ h))) (av_cons ((ev_var rfl rfl)) av_nil))) (R_most_steps_by.mk _ _ _ h.ok h.cbd hp)) rfl)
end
end Hn
end

section
set_option Elab.async false
set_option linter.all false
set_option maxRecDepth 100000
set_option maxHeartbeats 1000000
namespace Hn
open PySem PySem.Spec PyProof.Rows L2 NdefX LamX HnQ
section
variable {P : Program} {w : World} {K : PySem.W.Frag} {mg : Str → Option Value} {base : Heap} {T : List NTab}
section
variable {mo : Option Addr} {ta tb ti : TE} {Γ : List Slot} {d : D} {ds : List D} {j : Nat}
theorem ev_notInL (ha : Ev K T mo ta Γ (.im d)) (hb : Ev K T mo tb Γ (.ls ds)) (h1 : d.cmp) (h2 : ∀ e ∈ ds, e.cmp) : Ev K T mo (tOp (rNotInD K) ta tb) Γ (.im (.bl (!(D.pys ds).any fun z => PyData.eqv z d.py))) := fun H0 σ H Q E q =>
  ha H0 σ H _ E fun x H1 k1 p1 e1 r1 => hb H0 σ H1 _ (E.on e1) fun y H2 k2 p2 e2 r2 => by
    subst p1 p2
    exact ⟨_, _, (Rp.mono e2.tup r1).dp h1.1, r2.dpL h2, h1.shaped, (cmp_list h2).2, q _ H2 _ rfl (e1.trans e2) (.bl _)⟩
theorem ev_index (ha : Ev K T mo ta Γ (.ls ds)) (hb : Ev K T mo tb Γ (.im d)) (h1 : d.cmp) (h2 : ∀ e ∈ ds, e.cmp) {z : PyData} (hz : (D.pys ds)[j]? = some z) (hj : PyData.eqv z d.py = true) (hno : ∀ (m : Nat) (z' : PyData), m < j → (D.pys ds)[m]? = some z' → PyData.eqv z' d.py = false) :
    Ev K T mo (tBM K "list" (rIndexD K) ta (tCons tb tNil)) Γ (.im (.int ((j : Nat) : Int))) := fun H0 σ H Q E q =>
  ha H0 σ H _ E fun x H1 k1 p1 e1 r1 => by
    subst p1
    obtain ⟨a, xs, rfl, hm, hx, hr⟩ := r1
    refine ⟨Or.inl ⟨rfl, _, hx⟩, ?_⟩
    refine hb H0 σ H1 _ (E.on e1) fun y H2 k2 p2 e2 r2 => ?_
    subst p2
    have r1' : Kr K mo H2 H2 (.ref a) (.ls ds) := ⟨a, xs, rfl, hm, e2.sqL hm hx, hr.mono e2.tup⟩
    exact ⟨a, y, d.py, D.pys ds, j, z, rfl, rfl, r1'.dpL h2, Rp.dp r2 h1.1, (cmp_list h2).2, h1.shaped, hz, hj, hno, q _ H2 _ rfl (e1.trans e2) (.int _)⟩
end
/-- numbers told apart as data -/
structure Enc (enc : Nat → D) (B : Nat) : Prop where
  cmp : ∀ a, (enc a).cmp
  eqv : ∀ a b, a < B → b < B → PyData.eqv (enc a).py (enc b).py = decide (a = b)
abbrev orbL (enc : Nat → D) (F : Nat → Nat) (x k : Nat) : List D := (List.range k).map fun i => enc (itr F i x)
abbrev runD (enc : Nat → D) (F : Nat → Nat) (x k a : Nat) : D := .tup [.tup ((orbL enc F x k).take a), .tup ((orbL enc F x k).drop a)]
/-- the reading of run_by's body -/
def tRun (K : PySem.W.Frag) (f c' : Addr) (q : Str) (N' : List Str) (ws : List (Option V)) (tb : TE) : TS :=
  tSeq (tPar 2 3 (tCons (tLst tNil) (tCons (tVar 0) tNil)))
    (tSeq (tWhile (tTest (tOp (rNotInD K) (tVar 3) (tVar 2))) (tSeq (tDrop (tBM K "list" rAppend (tVar 2) (tCons (tVar 3) tNil))) (tAsg (tStep 1 f c' q N' ws tb (tCons (tVar 3) tNil)) (gName 3))))
      (tSeq (tAsg (tBM K "list" (rIndexD K) (tVar 2) (tCons (tVar 3) tNil)) (gName 4))
        (tRet (tTup (tCons (tCB (rTupA K) (tCons (tSl (rSlL K) (tVar 2) tNoPart (tPart (tVar 4))) tNil)) (tCons (tCB (rTupA K) (tCons (tSl (rSlL K) (tVar 2) (tPart (tVar 4)) tNoPart) tNil)) tNil))))))
theorem d_run_by {f c' g : Addr} {cdg : Value} {q : Str} {N' : List Str} {ws : List (Option V)} {tb : TE} {A : Around} {outer : List Env} {s : Shared} {H : Hp} {k : Nat} (M : Mods K mg) (hr : Room k (A.deeper (envOfC "run_by" (defScope s_run_by) s.heap.objs.size g cdg)))
    (act : ∀ (y : Str) (p p1 p2 : Pos) (ta : TA), PA (bodyCx P w K mg base nm_run_by "run_by" s_run_by g cdg A outer s H) [.Name y p] ta → PE (bodyCx P w K mg base nm_run_by "run_by" s_run_by g cdg A outer s H) (.Call (.Name "step" p1) [.Name y p] [] p2) (tStep 1 f c' q N' ws tb ta)) :
    PSs (bodyCx P w K mg base nm_run_by "run_by" s_run_by g cdg A outer s H) (defBody s_run_by) (tRun K f c' q N' ws tb) :=
  (pss_cons (ps_par (i := 2) (j := 3) rfl sc_run_by.nd rfl rfl (by decide) rfl rfl (pa_cons (pe_lst pa_nil) (pa_cons (pv 0) pa_nil)) (by rfl))
      (pss_cons (ps_while PassesOwn.never (pt_cmpR (op_notInD hr.un65) (pv 3) (pv 2) (by rfl))
      (pss_cons (ps_expr (pe_bm PySem.F.plainAttrs_list PySem.F.slot_list_append PySem.F.type_list_append mt_append (pv 2) (pa_cons (pv 3) pa_nil)))
      (pss_one (ps_set (i := 3) sc_run_by.nd rfl (.inl rfl) (act _ _ _ _ _ (pa_cons (pv 3) pa_nil))))))
      (pss_cons (ps_set (i := 4) sc_run_by.nd rfl (.inl rfl) (pe_bm PySem.F.plainAttrs_list PySem.F.slot_list_index PySem.F.type_list_index (mt_indexD hr.un65) (pv 2) (pa_cons (pv 3) pa_nil)))
      (pss_one (ps_ret (pe_tup (pa_cons (pe_callTy (tupK (K := K) rfl) (by rfl) M.n_tuple PyProof.Rows.boot_tuple (pa_cons (pe_slice sl_list (pv 2) po_none (po_some (pv 4))) pa_nil)) (pa_cons (pe_callTy (tupK (K := K) rfl) (by rfl) M.n_tuple PyProof.Rows.boot_tuple (pa_cons (pe_slice sl_list (pv 2) (po_some (pv 4)) po_none) pa_nil)) pa_nil))))))))
theorem pys_orb (enc : Nat → D) (F : Nat → Nat) (x k : Nat) : D.pys (orbL enc F x k) = (List.range k).map fun i => (enc (itr F i x)).py := by
  rw [D.pys_eq, List.map_map]
  rfl
theorem orb_cmp {enc : Nat → D} {B : Nat} (h : Enc enc B) (F : Nat → Nat) (x k : Nat) : ∀ d ∈ orbL enc F x k, d.cmp := fun d hd => by
  obtain ⟨i, _, rfl⟩ := List.mem_map.mp hd
  exact h.cmp _
theorem st_run {f c' : Addr} {q : Str} {N' : List Str} {tb : TE} {u : V} {k1 : Kd} {enc : Nat → D} {B : Nat} {F : Nat → Nat} {x k a : Nat} (hk1 : k1.arg = true) (hN : N'.length = 2) (he : Enc enc B) (hF : ∀ a, a < B → F a < B) (hx : x < B) (ho : Orb F x k a) (hk : k ≤ 1000)
    (hb : ∀ a, a < B → Ev K T none tb [.im (enc a), k1.pslot] (.im (enc (F a)))) {R : Kd → Prop} (hR : R (.im (runD enc F x k a))) :
    StP K T none true (tRun K f c' q N' [some u] tb) [.im (enc x), .par (.cl f c' q u k1), .none, .none, .none] (fun _ => False) R := by
  have hi : ∀ i, itr F i x < B := fun i => by
    induction i with
    | zero => exact hx
    | succ i ih => exact hF _ ih
  refine st_seq (Γ1 := [.im (enc x), .par (.cl f c' q u k1), .own [], .im (enc x), .none]) (st_parL (ev_lst (ds := []) av_nil) (ev_var rfl rfl)) ?_
  refine st_seq (Γ1 := [.im (enc x), .par (.cl f c' q u k1), .own (orbL enc F x k), .im (enc (itr F k x)), .none]) (st_whileP (fun m Γ => ∃ j, j + m = k ∧ Γ = [.im (enc x), .par (.cl f c' q u k1), .own (orbL enc F x j), .im (enc (itr F j x)), .none]) k ⟨0, by omega, rfl⟩ ?_) ?_
  · rintro m Γ ⟨j, hj, rfl⟩
    refine ⟨_, tv_test (ev_notInL (ev_var rfl rfl) (ev_var rfl rfl) (he.cmp _) (orb_cmp he F x j)), fun z => ?_, fun z => ?_⟩
    · have hm : j < k := by
        by_cases h : j = k
        · exfalso
          subst h
          have q : ((D.pys (orbL enc F x j)).any fun z => PyData.eqv z (enc (itr F j x)).py) = true := by
            rw [pys_orb, List.any_eq_true]
            refine ⟨_, List.mem_map.mpr ⟨a, List.mem_range.mpr ho.lt, rfl⟩, ?_⟩
            rw [he.eqv _ _ (hi _) (hi _), ho.back, decide_eq_true rfl]
          rw [q] at z
          cases z
        · omega
      refine st_seq (Γ1 := [.im (enc x), .par (.cl f c' q u k1), .own (orbL enc F x (j + 1)), .im (enc (itr F j x)), .none]) ((st_app (i := 2) rfl (by rw [List.length_map, List.length_range]; omega) (ev_var rfl rfl)).to (fun Γ e => e.trans ?_) fun _ z => z) ?_
      · unfold orbL
        rw [List.range_succ, List.map_append]
        rfl
      · exact (st_set (ev_stepE rfl (av_cons ((ev_var rfl rfl)) av_nil) hk1 hN (hb _ (hi j)))).to (fun Γ e => ⟨m - 1, by omega, j + 1, by omega, e⟩) fun _ z => z
    · have q : ((D.pys (orbL enc F x j)).any fun z => PyData.eqv z (enc (itr F j x)).py) = true := by
        cases hh : ((D.pys (orbL enc F x j)).any fun z => PyData.eqv z (enc (itr F j x)).py) with
        | true => rfl
        | false => rw [hh] at z; cases z
      rw [pys_orb, List.any_eq_true] at q
      obtain ⟨_, hm, e⟩ := q
      obtain ⟨i, hi', rfl⟩ := List.mem_map.mp hm
      rw [he.eqv _ _ (hi _) (hi _)] at e
      have e := of_decide_eq_true e
      have hi' := List.mem_range.mp hi'
      have : j = k := by
        by_cases h : j = k
        · exact h
        · exact absurd e (ho.inj i j hi' (by omega))
      subst this
      rfl
  refine st_seq (Γ1 := [.im (enc x), .par (.cl f c' q u k1), .own (orbL enc F x k), .im (enc (itr F k x)), .im (.int ((a : Nat) : Int))]) (st_set (ev_index (z := (enc (itr F a x)).py) (ev_var rfl rfl) (ev_var rfl rfl) (he.cmp _) (orb_cmp he F x k) ?_ ?_ ?_)) ?_
  · rw [pys_orb, List.getElem?_map, List.getElem?_range ho.lt]
    rfl
  · rw [he.eqv _ _ (hi _) (hi _), ho.back, decide_eq_true rfl]
  · intro m z' hm hz
    rw [pys_orb, List.getElem?_map, List.getElem?_range (Nat.lt_trans hm ho.lt)] at hz
    cases hz
    rw [he.eqv _ _ (hi _) (hi _), ho.back]
    exact decide_eq_false (ho.inj m a hm ho.lt)
  · exact st_ret (ev_tup (ds := [_, _]) (av_cons (ev_tupL (ev_ls (ev_slTo (ev_var rfl rfl) (ev_var rfl rfl)))) (av_cons (ev_tupL (ev_ls (ev_slFrom (ev_var rfl rfl) (ev_var rfl rfl)))) av_nil))) hR
/-- a maker of lambdas -/
def LamAt (K : PySem.W.Frag) (mg : Str → Option Value) (base : Heap) (T : List NTab) (x : Str) (st : Stmt) : Prop := ∃ c P, FgC K mg x st c ∧ TabB base mg c P ∧ (P, fun _ _ => x ++ ".<locals>.<lambda>") ∈ T ∧ ∀ p ∈ T, p.1 = P → p.2 = fun _ _ => x ++ ".<locals>.<lambda>"
theorem enc_st (n : Nat) : Enc (stD n) (2 ^ n) := by
  have e : ∀ s, stD n s = .tup (((List.range n).map fun i => ((bit s i : Nat) : Int)).map D.int) := fun s => by
    rw [List.map_map]
    rfl
  refine ⟨fun a => by rw [e]; exact cmp_ints _, fun a b ha hb => ?_⟩
  rw [e, e, eqv_ints, decide_eq_decide]
  refine ⟨fun h => ?_, fun h => by rw [h]⟩
  rw [← nm_bit ha, ← nm_bit hb]
  refine nm_congr fun i hi => ?_
  have q := congrArg (fun l : List Int => l[i]?) h
  simp only [List.getElem?_map, List.getElem?_range hi, Option.map_some, Option.some.injEq] at q
  have q : bit a i = bit b i := by omega
  rw [q]
inductive R_at_once_by : List Kd → Kd → Prop
  | mk (N : Net) (s k a : Nat) (h : NetOk N) (hs : s < 2 ^ N.n) (ho : Orb (next N) s k a) (hk : k ≤ 1000) : R_at_once_by [.im (netD N), .im (stD N.n s)] (.im (runD (stD N.n) (next N) s k a))
theorem g_at_once_by (M : Mods K mg) (L : LamAt K mg base T "at_once_by" s_at_once_by) (G_wanted_by : PFn P w K mg base T "wanted_by" s_wanted_by ["net", "state"] 5 R_wanted_by) : PFn P w K mg base T "at_once_by" s_at_once_by ["net", "state"] 8 R_at_once_by := by
  obtain ⟨c, PT, FC, TB, hm, hu⟩ := L
  refine pf_ofC (T := T) FC sc_at_once_by (fun ks k h => by cases h; rfl) (fun _ _ _ _ _ _ us hl => match us, hl with | [_, _], _ => rfl) fun f A outer s H hr gd => ⟨_,
    pss_one (ps_ret (pe_lam (b := "first") (a := "step") (fr := ["net"]) (js := [0]) (q := "at_once_by.<locals>.<lambda>") (Ng := nm_run_by) (T := T) (k := 5)
      (trb := fun f c' ws => tRun K f c' "at_once_by.<locals>.<lambda>" ["each", "net"] ws (tCall (Prm K T none (DSpec R_wanted_by)) [] E0 (tCons (tVar 1) (tCons (tVar 0) tNil))))
      M.f_run_by (by rfl) sc_run_by (fun _ _ _ _ _ _ us hl => match us, hl with | [_, _], _ => rfl) TB rfl rfl hm hu hr rfl (ndef_free (sc := defScope s_at_once_by) (fr := ["net"]) (by decide +kernel)) (ndef_fr (sc := defScope s_at_once_by) (by decide +kernel)) rfl (pv 1)
      (fun g cdg f c' pm ctv ws s1 H1 hf hfn hfr C hr' => d_run_by M hr' fun y p p1 p2 ta ha => pe_step (pa := "each") (fr := ["net"]) hf hfn hfr C (nscope_by (by decide +kernel)) (fun _ _ _ => rfl) hr' gd
        (fun A' o' s' H' hA gA => pe_gf G_wanted_by hA (by decide) gA (by rfl) (pa_cons (pv 1) (pa_cons (pv 0) pa_nil))) rfl (Or.inl rfl) ha))), fun ks k h => ?_⟩
  cases h with
  | mk N s k a h hs ho hk =>
    refine st_retP (ev_lam (js := []) (w := true) (k1 := .im (netD N)) (ev_var rfl rfl) rfl rfl rfl (by decide) fun f c' u => ?_) fun _ z => z
    exact st_run rfl rfl (enc_st N.n) (fun a _ => next_lt N a) hs ho hk (fun a ha => (ev_call (av_cons ((ev_var rfl rfl)) (av_cons ((ev_var rfl rfl)) av_nil)) (R_wanted_by.mk _ _ h))) rfl
inductive R_run : List Kd → Kd → Prop
  | mk (N : Net) (s k a : Nat) (h : NetOk N) (hs : s < 2 ^ N.n) (ho : Orb (next N) s k a) (hk : k ≤ 1000) : R_run [.im (netD N), .im (stD N.n s)] (.im (runD (stD N.n) (next N) s k a))
theorem g_run (M : Mods K mg) (G_check_both : PFn P w K mg base T "check_both" s_check_both ["net", "state"] 6 R_check_both) (G_at_once_by : PFn P w K mg base T "at_once_by" s_at_once_by ["net", "state"] 8 R_at_once_by) : PFn P w K mg base T "run" s_run ["net", "state"] 9 R_run := by
  refine pf_of (T := T) M.f_run sc_run (fun ks k h => by cases h; rfl) (fun _ _ _ _ _ _ us hl => match us, hl with | [_, _], _ => rfl) fun f cdv A outer s H hr gd => ⟨_,
    (pss_cons (ps_expr (pe_gf G_check_both hr (by decide) gd (by rfl) (pa_cons (pv 0) (pa_cons (pv 1) pa_nil))))
      (pss_one (ps_ret (pe_gf G_at_once_by hr (by decide) gd (by rfl) (pa_cons (pv 0) (pa_cons (pv 1) pa_nil)))))), fun ks k h => ?_⟩
  cases h with
  | mk N s k a h hs ho hk =>
    exact st_seq (st_drop (ev_call (av_cons ((ev_var rfl rfl)) (av_cons ((ev_var rfl rfl)) av_nil)) (R_check_both.mk _ _ h))) (st_ret (ev_call (av_cons ((ev_var rfl rfl)) (av_cons ((ev_var rfl rfl)) av_nil)) (R_at_once_by.mk _ _ _ _ h hs ho hk)) rfl)
theorem enc_int (B : Nat) : Enc (fun a => .int ((a : Nat) : Int)) B := ⟨fun a => cmp_int _, fun a b _ _ => by
  have e : PyData.eqv (D.int ((a : Nat) : Int)).py (D.int ((b : Nat) : Int)).py = (((a : Nat) : Int) == ((b : Nat) : Int)) := by simp only [D.py, PyData.eqv]
  rw [e]
  by_cases h : a = b
  · subst h
    simp
  · rw [decide_eq_false h]
    exact beq_eq_false_iff_ne.mpr (by omega)⟩
/-- the rings: one for each number that is the least of its ring -/
def ringF (F : Nat → Nat) (k a : Nat → Nat) (s : Nat) : Bool := decide (a s = 0) && decide (∀ i, i < k s → s ≤ itr F i s)
abbrev ringD (n : Nat) (F : Nat → Nat) (k : Nat → Nat) (s : Nat) : D := .tup ((List.range (k s)).map fun i => stD n (itr F i s))
inductive R_rings_by : List Kd → Kd → Prop
  | mk (N : Net) (k a : Nat → Nat) (h : NetOk N) (ho : ∀ s, s < 2 ^ N.n → Orb (next N) s (k s) (a s)) (hk : ∀ s, k s ≤ 1000) : R_rings_by [.im (netD N)] (.im (.tup (given (2 ^ N.n) (ringF (next N) k a) (ringD N.n (next N) k))))
theorem min_orb (F : Nat → Nat) (s : Nat) : ∀ k, 0 < k → ∃ i, i < k ∧ ∀ j, j < k → itr F i s ≤ itr F j s
  | 0, h => absurd h (by decide)
  | 1, _ => ⟨0, by decide, fun j hj => by rw [show j = 0 by omega]; exact Nat.le_refl _⟩
  | k + 2, _ => by
    obtain ⟨i, hi, hm⟩ := min_orb F s (k + 1) (by omega)
    by_cases h : itr F (k + 1) s < itr F i s
    · refine ⟨k + 1, by omega, fun j hj => ?_⟩
      by_cases e : j = k + 1
      · rw [e]; exact Nat.le_refl _
      · have := hm j (by omega)
        omega
    · refine ⟨i, by omega, fun j hj => ?_⟩
      by_cases e : j = k + 1
      · rw [e]; omega
      · exact hm j (by omega)
theorem g_rings_by (M : Mods K mg) (L : LamAt K mg base T "rings_by" s_rings_by) (G_wanted_by : PFn P w K mg base T "wanted_by" s_wanted_by ["net", "state"] 5 R_wanted_by) (G_number_by : PFn P w K mg base T "number_by" s_number_by ["state"] 1 R_number_by)
    (G_all_states : PFn P w K mg base T "all_states" s_all_states ["net"] 2 R_all_states) (G_state_by : PFn P w K mg base T "state_by" s_state_by ["many", "number"] 1 R_state_by) (G_many_cells : PFn P w K mg base T "many_cells" s_many_cells ["net"] 1 R_many_cells) :
    PFn P w K mg base T "rings_by" s_rings_by ["net"] 6 R_rings_by := by
  obtain ⟨c, PT, FC, TB, hm, hu⟩ := L
  refine pf_ofC (T := T) FC sc_rings_by (fun ks k h => by cases h; rfl) (fun _ _ _ _ _ _ us hl => match us, hl with | [_], _ => rfl) fun f A outer s H hr gd => ⟨_, (pss_cons (ps_set (i := 1) sc_rings_by.nd rfl (.inr rfl) (pe_lc (own := [("state", 6)]) (g := gName 6) (tt := tYes) rfl sc_rings_by.nd (pi_list (pe_gf G_all_states hr (by decide) gd (by rfl) (pa_cons (pv 0) pa_nil))) (blkOk_by (N := nm_rings_by) (sc := defScope s_rings_by) (by decide +kernel)) (fun _ _ _ _ _ => (pg_name (i := 6) sc_rings_by.nd rfl (.inl rfl))) (fun _ _ _ _ _ => pts_nil) (fun _ _ _ _ _ => (pe_gf G_number_by hr (by decide) gd (by rfl) (pa_cons (pe_gf G_wanted_by hr (by decide) gd (by rfl) (pa_cons (pv 0) (pa_cons (pv 6) pa_nil))) pa_nil)))))
      (pss_cons (ps_set (i := 2) sc_rings_by.nd rfl (.inl rfl) (pe_lst pa_nil))
      (pss_cons (ps_for PassesOwn.never rfl (pi_range1 (by rfl) M.n_range (pa_cons (pe_callB (lenK (K := K) rfl) (by rfl) M.n_len PySem.boot_len (pa_cons (pv 1) pa_nil)) pa_nil)) (pg_name (i := 3) sc_rings_by.nd rfl (.inl rfl))
      (pss_cons (ps_asg (pe_lam (b := "first") (a := "step") (fr := ["nexts"]) (js := [1]) (q := "rings_by.<locals>.<lambda>") (Ng := nm_run_by) (T := T) (k := 3)
      (trb := fun f c' ws => tRun K f c' "rings_by.<locals>.<lambda>" ["each", "nexts"] ws (tOp (rIxL K) (tVar 1) (tVar 0)))
      M.f_run_by (by rfl) sc_run_by (fun _ _ _ _ _ _ us hl => match us, hl with | [_, _], _ => rfl) TB rfl rfl hm hu hr rfl (ndef_free (sc := defScope s_rings_by) (fr := ["nexts"]) (by decide +kernel)) (ndef_fr (sc := defScope s_rings_by) (by decide +kernel)) rfl (pv 3)
      (fun g cdg f c' pm ctv ws s1 H1 hf hfn hfr C hr' => d_run_by M hr' fun y p p1 p2 ta ha => pe_step (pa := "each") (fr := ["nexts"]) hf hfn hfr C (nscope_by (by decide +kernel)) (fun _ _ _ => rfl) hr' gd
        (fun A' o' s' H' hA gA => pe_ix (ixL (K := K) rfl) (pv 1) (pv 0) (fun _ _ => rfl)) rfl (Or.inl rfl) ha)) (pg_tup rfl (pgs_cons (pg_name (i := 4) sc_rings_by.nd rfl (.inl rfl)) (pgs_cons (pg_name (i := 5) sc_rings_by.nd rfl (.inl rfl)) pgs_nil))))
      (pss_one (ps_if (PW.pt (pw_and (pt_cmpR (eqDK (K := K) rfl hr.units) (pv 4) (pe_tup pa_nil) (nomark _)) (pw_and1 (pt_cmpR op_eq (pv 3) (pe_callB (minTK (K := K) rfl rfl) (by rfl) M.n_min PyProof.Rows.boot_min (pa_cons (pv 5) pa_nil)) (nomark _))))) (pss_one (ps_expr (pe_bm PySem.F.plainAttrs_list PySem.F.slot_list_append PySem.F.type_list_append mt_append (pv 2) (pa_cons (pe_callTy (tupK (K := K) rfl) (by rfl) M.n_tuple PyProof.Rows.boot_tuple (pa_cons (pe_lc (own := [("each", 7)]) (g := gName 7) (tt := tYes) rfl sc_rings_by.nd (pi_tup (pv 5)) (blkOk_by (N := nm_rings_by) (sc := defScope s_rings_by) (by decide +kernel)) (fun _ _ _ _ _ => (pg_name (i := 7) sc_rings_by.nd rfl (.inl rfl))) (fun _ _ _ _ _ => pts_nil) (fun _ _ _ _ _ => (pe_gf G_state_by hr (by decide) gd (by rfl) (pa_cons (pe_gf G_many_cells hr (by decide) gd (by rfl) (pa_cons (pv 0) pa_nil)) (pa_cons (pv 7) pa_nil))))) pa_nil)) pa_nil)))) pss_nil))))
      (pss_one (ps_ret (pe_callTy (tupK (K := K) rfl) (by rfl) M.n_tuple PyProof.Rows.boot_tuple (pa_cons (pv 2) pa_nil))))))), fun ks k h => ?_⟩
  cases h with
  | mk N k a h ho hk =>
    have hl := h.le
    have hp := pow16 hl
    have e : ∀ {f : Nat → D}, ((List.range (2 ^ N.n)).map f).length = 2 ^ N.n := len_row
    have el : ∀ {f : Nat → D}, ((List.range (2 ^ N.n)).map f).length ≤ 10000 := by intro f; rw [e]; omega
    refine st_seq (Γ1 := [.im (netD N), .own ((List.range (2 ^ N.n)).map fun s => .int ((next N s : Nat) : Int)), .none, .none, .none, .none, .none, .none]) (st_set ((ev_lcA (it_lst (ev_ls (ev_call (av_cons ((ev_var rfl rfl)) av_nil) (R_all_states.mk _ hl))) (dd := fun s => stD N.n s) fun i hi => get_row hi) (fun i hi => (ev_call (av_cons ((ev_call (av_cons ((ev_var rfl rfl)) (av_cons ((ev_var rfl rfl)) av_nil)) (R_wanted_by.mk _ _ h))) av_nil) (R_number_by.mk _ _ hl (next_lt N i)))) el (by decide)).as (k' := .fl ((List.range (2 ^ N.n)).map fun s => .int ((next N s : Nat) : Int))) (by rw [e]))) ?_
    refine st_seq (Γ1 := [.im (netD N), .own ((List.range (2 ^ N.n)).map fun s => .int ((next N s : Nat) : Int)), .own [], .none, .none, .none, .none, .none]) (st_set (ev_lst (ds := []) av_nil)) ?_
    refine st_seqP (N1 := fun Γ => ∃ s3 s4 s5, Γ = [.im (netD N), .own ((List.range (2 ^ N.n)).map fun s => .int ((next N s : Nat) : Int)), .own (given (2 ^ N.n) (ringF (next N) k a) (ringD N.n (next N) k)), s3, s4, s5, .none, .none])
      (st_forP (n := 2 ^ N.n) (it_rngN (av_cons ((ev_lenL (ev_var rfl rfl)).as (k' := .im (.int ((2 ^ N.n : Nat) : Int))) (by rw [e])) av_nil) (by omega)) (fun z => z) (fun i Γ => ∃ s3 s4 s5, Sim s3 ∧ Sim s4 ∧ Sim s5 ∧ Γ = [.im (netD N), .own ((List.range (2 ^ N.n)).map fun s => .int ((next N s : Nat) : Int)), .own (given i (ringF (next N) k a) (ringD N.n (next N) k)), s3, s4, s5, .none, .none]) ⟨_, _, _, .inl rfl, .inl rfl, .inl rfl, rfl⟩ ?_ ?_) ?_
    · rintro i Γ hi ⟨s3, s4, s5, h3, h4, h5, rfl⟩
      have oi := ho i hi
      have hlt := oi.lt
      have hin : ∀ j, itr (next N) j i < 2 ^ N.n := fun j => by
        cases j with
        | zero => exact hi
        | succ j => exact next_lt N _
      refine st_seq (Γ1 := [.im (netD N), .own ((List.range (2 ^ N.n)).map fun s => .int ((next N s : Nat) : Int)), .own (given i (ringF (next N) k a) (ringD N.n (next N) k)), .im (.int ((i : Nat) : Int)), .im (.tup ((orbL (fun a => .int ((a : Nat) : Int)) (next N) i (k i)).take (a i))), .im (.tup ((orbL (fun a => .int ((a : Nat) : Int)) (next N) i (k i)).drop (a i))), .none, .none])
        (st_unp (ev_lam (js := []) (w := true) (j := 1) (k1 := .ls ((List.range (2 ^ N.n)).map fun s => .int ((next N s : Nat) : Int))) (P := fun k' => k' = _) (ev_var rfl rfl) rfl rfl rfl (by decide) fun f c' u => ?_)) ?_
      · exact st_run (enc := fun a => .int ((a : Nat) : Int)) (B := 2 ^ N.n) rfl rfl (enc_int _) (fun a _ => next_lt N a) hi oi (hk i) (fun a ha => ev_ixL (ev_var rfl rfl) (ev_var rfl rfl) (at_row ha)) rfl
      · have ei : ∀ n, orbL (fun a => .int ((a : Nat) : Int)) (next N) i n = ((List.range n).map fun j => ((itr (next N) j i : Nat) : Int)).map D.int := fun n => by
          rw [List.map_map]
          rfl
        refine st_if ((tv_and (b := decide (a i = 0)) (c := decide (∀ j, j < k i → i ≤ itr (next N) j i)) (tv_test ((ev_eqD (d2 := .tup []) (ev_var rfl rfl) (ev_tup (ds := []) av_nil) ?_ (cmp_ints [])).as (k' := .im (.bl (decide (a i = 0)))) ?_)) fun z => ?_)) (fun z => ?_) fun z => ?_
        · rw [ei, ← List.map_take]
          exact cmp_ints _
        · rw [ei, ← List.map_take]
          show Kd.im (.bl (PyData.eqv _ (D.tup (List.map D.int [])).py)) = _
          rw [eqv_ints]
          congr 2
          rw [decide_eq_decide]
          refine ⟨fun h => ?_, fun h => by rw [h, List.take_zero]⟩
          have q := congrArg List.length h
          rw [List.length_take, List.length_map, List.length_range, List.length_nil] at q
          omega
        · have ha : a i = 0 := of_decide_eq_true z
          obtain ⟨jm, hjm, hmin⟩ := min_orb (next N) i (k i) (by omega)
          rw [ha, List.drop_zero, ei]
          refine (tv_test (ev_eqI (ev_var rfl rfl) (ev_minT (m := ((itr (next N) jm i : Nat) : Int)) (ev_var rfl rfl) (List.mem_map.mpr ⟨jm, List.mem_range.mpr hjm, rfl⟩) ?_))).as ?_
          · intro y hy
            obtain ⟨j, hj, rfl⟩ := List.mem_map.mp hy
            have := hmin j (List.mem_range.mp hj)
            omega
          · rw [decide_eq_decide]
            refine ⟨fun h j hj => ?_, fun h => ?_⟩
            · have := hmin j hj
              omega
            · have h1 := h jm hjm
              have h2 := hmin 0 (by omega)
              have h3 : itr (next N) 0 i = i := rfl
              omega
        · have hf : ringF (next N) k a i = true := z
          have ha : a i = 0 := of_decide_eq_true (Bool.and_eq_true_iff.mp hf).1
          rw [ha, List.drop_zero]
          have ek : (orbL (fun a => .int ((a : Nat) : Int)) (next N) i (k i)).length = k i := len_row
          have hk' := hk i
          have ekl : (orbL (fun a => .int ((a : Nat) : Int)) (next N) i (k i)).length ≤ 10000 := by rw [ek]; omega
          refine (st_app (i := 2) (d := ringD N.n (next N) k i) rfl ?_ ((ev_tupL (ev_ls (ev_lcA (it_tup (ev_var rfl rfl) (dd := fun j => .int ((itr (next N) j i : Nat) : Int)) fun j hj => get_row hj) (fun j hj => (ev_call (av_cons ((ev_call (av_cons ((ev_var rfl rfl)) av_nil) (R_many_cells.mk _))) (av_cons ((ev_var rfl rfl)) av_nil)) (R_state_by.mk _ _ hl))) ekl (by decide)))).as (by rw [ek]))).to (fun Γ e => ?_) fun _ z => z
          · have := given_le i (ringF (next N) k a) (ringD N.n (next N) k)
            omega
          · subst e
            rw [given_yes hf]
            exact ⟨_, _, _, .inr ⟨_, rfl⟩, .inr ⟨_, rfl⟩, .inr ⟨_, rfl⟩, rfl⟩
        · have hf : ringF (next N) k a i = false := z
          refine st_next.to (fun Γ e => ?_) fun _ z => z
          subst e
          rw [given_no hf]
          exact ⟨_, _, _, .inr ⟨_, rfl⟩, .inr ⟨_, rfl⟩, .inr ⟨_, rfl⟩, rfl⟩
    · rintro Γ ⟨s3, s4, s5, _, _, _, rfl⟩
      exact ⟨s3, s4, s5, rfl⟩
    · rintro Γ ⟨s3, s4, s5, rfl⟩
      exact st_ret (ev_tupL (ev_var rfl rfl)) rfl
inductive R_rings : List Kd → Kd → Prop
  | mk (N : Net) (k a : Nat → Nat) (h : NetOk N) (ho : ∀ s, s < 2 ^ N.n → Orb (next N) s (k s) (a s)) (hk : ∀ s, k s ≤ 1000) : R_rings [.im (netD N)] (.im (.tup (given (2 ^ N.n) (ringF (next N) k a) (ringD N.n (next N) k))))
theorem g_rings (M : Mods K mg) (G_check_net : PFn P w K mg base T "check_net" s_check_net ["value"] 5 R_check_net) (G_rings_by : PFn P w K mg base T "rings_by" s_rings_by ["net"] 6 R_rings_by) : PFn P w K mg base T "rings" s_rings ["net"] 7 R_rings := by
  refine pf_of (T := T) M.f_rings sc_rings (fun ks k h => by cases h; rfl) (fun _ _ _ _ _ _ us hl => match us, hl with | [_], _ => rfl) fun f cdv A outer s H hr gd => ⟨_,
    (pss_cons (ps_expr (pe_gf G_check_net hr (by decide) gd (by rfl) (pa_cons (pv 0) pa_nil)))
      (pss_one (ps_ret (pe_gf G_rings_by hr (by decide) gd (by rfl) (pa_cons (pv 0) pa_nil))))), fun ks k h => ?_⟩
  cases h with
  | mk N k a h ho hk =>
    exact st_seq (st_drop (ev_call (av_cons ((ev_var rfl rfl)) av_nil) (R_check_net.mk _ h))) (st_ret (ev_call (av_cons ((ev_var rfl rfl)) av_nil) (R_rings_by.mk _ _ _ h ho hk)) rfl)
end
end Hn
end

section
set_option Elab.async false
set_option linter.all false
set_option maxRecDepth 100000
set_option maxHeartbeats 1000000
namespace Hn
open PySem PySem.Spec PyProof.Rows L2 NdefX LamX HnQ
section
variable {P : Program} {w : World} {K : PySem.W.Frag} {mg : Str → Option Value} {base : Heap} {T : List NTab}
section
variable {mo : Option Addr} {ta tb : TE} {Γ : List Slot} {a b : Int} {q : Rat}
theorem ev_lit (ha : Ev K T mo ta Γ (.im (.int a))) (hb : Ev K T mo tb Γ (.im (.int b))) (h1 : q.num = a) (h2 : (q.den : Int) = b) : Ev K T mo (tTup (tCons ta (tCons tb tNil))) Γ (.im (fr q)) :=
  (ev_tup (ds := [.int a, .int b]) (av_cons (ha) (av_cons (hb) av_nil))).as (by rw [← h1, ← h2])
end
/-- a list of one's own given back -/
theorem st_retOwn {mo : Option Addr} {w : Bool} {Γ : List Slot} {i : Nat} {ds : List D} {N : List Slot → Prop} {R : Kd → Prop} (hi : Γ[i]? = some (.own ds)) (e : R (.fl ds)) : StP K T mo w (tRet (tVar i)) Γ N R := fun H0 σ H D E q1 q2 => by
  obtain ⟨a, xs, h1, h2, h3, h4, h5⟩ := E.sl i _ hi
  exact ⟨.ref a, h1, q2 (.ref a) H _ e E.le ⟨a, xs, rfl, h2, h4, h5⟩⟩
theorem half_num : (1 / 2 : Rat).num = 1 := by decide +kernel
theorem half_den : (((1 / 2 : Rat).den : Nat) : Int) = 2 := by decide +kernel
theorem bit_dec (s i : Nat) : decide (((s / 2 ^ i % 2 : Nat) : Int) = 1) = decide (bit s i = 1) := by
  rw [decide_eq_decide]
  unfold bit
  omega
inductive R_law_lean : List Kd → Kd → Prop
  | mk (a b : Int) (hb : b ≠ 0) (h : Big b) : R_law_lean [.im (.int a), .im (.int b)] (.im (fr (Rat.divInt a b)))
theorem g_law_lean (M : Mods K mg)  : PFn P w K mg base T "_law_lean" s_law_lean ["_law_top", "_law_base"] 1 R_law_lean := by
  refine pf_of (T := T) M.f_law_lean sc_law_lean (fun ks k h => by cases h; rfl) (fun _ _ _ _ _ _ us hl => match us, hl with | [_, _], _ => rfl) fun f cdv A outer s H hr gd => ⟨_,
    (pss_cons (ps_par (i := 2) (j := 3) rfl sc_law_lean.nd rfl rfl (by decide) rfl rfl (pa_cons (pe_callB c_abs (by rfl) M.n_abs PyProof.Rows.boot_abs (pa_cons (pv 0) pa_nil)) (pa_cons (pe_callB c_abs (by rfl) M.n_abs PyProof.Rows.boot_abs (pa_cons (pv 1) pa_nil)) pa_nil)) (by rfl))
      (pss_cons (ps_while PassesOwn.never (pt_cmpR op_gt (pv 3) pe_int (nomark _))
      (pss_one (ps_par (i := 2) (j := 3) rfl sc_law_lean.nd rfl rfl (by decide) rfl rfl (pa_cons (pv 3) (pa_cons (pe_op op_mod (pe_callTy c_int (by rfl) M.n_int PyProof.Rows.boot_int (pa_cons (pv 2) pa_nil)) (pv 3)) pa_nil)) (by rfl))))
      (pss_cons (ps_set (i := 2) sc_law_lean.nd rfl (.inl rfl) (pe_ifExp (pt_cmpR op_gt (pv 1) pe_int (nomark _)) (pv 2) (pe_op op_sub pe_int (pv 2))))
      (pss_one (ps_ret (pe_tup (pa_cons (pe_op op_fdivZ (pv 0) (pv 2)) (pa_cons (pe_op op_fdivZ (pv 1) (pv 2)) pa_nil)))))))), fun ks k h => ?_⟩
  cases h with
  | mk a b hb hs =>
    refine st_seq (Γ1 := [.im (.int a), .im (.int b), .im (.int (a.natAbs : Int)), .im (.int (b.natAbs : Int))]) (st_par (av_cons (ev_abs (ev_var rfl rfl)) (av_cons (ev_abs (ev_var rfl rfl)) av_nil))) ?_
    refine st_seq (Γ1 := [.im (.int a), .im (.int b), .im (.int ((Nat.gcd a.natAbs b.natAbs : Nat) : Int)), .im (.int 0)]) (st_whileP (fun m Γ => ∃ far rest : Nat, Γ = [.im (.int a), .im (.int b), .im (.int (far : Int)), .im (.int (rest : Int))] ∧ Nat.gcd far rest = Nat.gcd a.natAbs b.natAbs ∧ rest = m) _ ⟨_, _, rfl, rfl, rfl⟩ ?_) ?_
    · rintro m Γ ⟨far, rest, rfl, hg, rfl⟩
      refine ⟨_, tv_test (ev_opB0 (ev_var rfl rfl) ev_int), fun z => ?_, fun z => ?_⟩
      · have z : 0 < rest := by
          have := of_decide_eq_true z
          omega
        refine (st_par (av_cons ((ev_var rfl rfl)) (av_cons (ev_opI (ev_int1 (ev_var rfl rfl)) (ev_var rfl rfl) (by omega)) av_nil))).to (fun Γ e => ⟨far % rest, Nat.mod_lt _ z, rest, far % rest, e.trans ?_, ?_, rfl⟩) fun _ z => z
        · rw [Int.natCast_emod]
          rfl
        · rw [← hg, Nat.gcd_comm rest, ← Nat.gcd_rec, Nat.gcd_comm]
      · have z : rest = 0 := by
          have := of_decide_eq_false z
          omega
        subst z
        rw [Nat.gcd_zero_right] at hg
        rw [hg]
        rfl
    refine st_seq (Γ1 := [.im (.int a), .im (.int b), .im (.int (sgcd a b)), .im (.int 0)]) (st_set ((ev_ifD (tv_test (ev_opB0 (ev_var rfl rfl) ev_int)) (fun _ => (ev_var rfl rfl)) (fun _ => ev_opI0 ev_int (ev_var rfl rfl))).as (k' := .im (.int (sgcd a b))) ?_)) ?_
    · unfold sgcd
      by_cases h : 0 < b <;> simp [h]
    · refine st_ret (ev_tup (ds := [.int _, .int _]) (av_cons (ev_opI (ev_var rfl rfl) (ev_var rfl rfl) (div_sgcd hb hs _)) (av_cons (ev_opI (ev_var rfl rfl) (ev_var rfl rfl) (div_sgcd hb hs _)) av_nil))) ?_
      rw [sgcd_num hb, sgcd_den hb]
inductive R_law_plus : List Kd → Kd → Prop
  | mk (p q : Rat) (hp : Small p) (hq : Small q) : R_law_plus [.im (fr p), .im (fr q)] (.im (fr (p + q)))
theorem g_law_plus (M : Mods K mg) (G_law_lean : PFn P w K mg base T "_law_lean" s_law_lean ["_law_top", "_law_base"] 1 R_law_lean) : PFn P w K mg base T "_law_plus" s_law_plus ["_law_x", "_law_y"] 2 R_law_plus := by
  refine pf_of (T := T) M.f_law_plus sc_law_plus (fun ks k h => by cases h; rfl) (fun _ _ _ _ _ _ us hl => match us, hl with | [_, _], _ => rfl) fun f cdv A outer s H hr gd => ⟨_,
    (pss_one (ps_ret (pe_gf G_law_lean hr (by decide) gd (by rfl) (pa_cons (pe_op op_add (pe_op op_mulW (pe_ix (ixT (K := K) rfl) (pv 0) pe_int (fun _ _ => rfl)) (pe_ix (ixT (K := K) rfl) (pv 1) pe_int (fun _ _ => rfl))) (pe_op op_mulW (pe_ix (ixT (K := K) rfl) (pv 1) pe_int (fun _ _ => rfl)) (pe_ix (ixT (K := K) rfl) (pv 0) pe_int (fun _ _ => rfl)))) (pa_cons (pe_op op_mulW (pe_ix (ixT (K := K) rfl) (pv 0) pe_int (fun _ _ => rfl)) (pe_ix (ixT (K := K) rfl) (pv 1) pe_int (fun _ _ => rfl))) pa_nil))))), fun ks k h => ?_⟩
  cases h with
  | mk p q hp hq =>
    refine st_ret (ev_call (av_cons (ev_opI0 (ev_mulB (ev_ixT (ev_var rfl rfl) ev_int rfl) (ev_ixT (ev_var rfl rfl) ev_int rfl) (B4.n hp) (B4.d hq)) (ev_mulB (ev_ixT (ev_var rfl rfl) ev_int rfl) (ev_ixT (ev_var rfl rfl) ev_int rfl) (B4.n hq) (B4.d hp))) (av_cons ((ev_mulB (ev_ixT (ev_var rfl rfl) ev_int rfl) (ev_ixT (ev_var rfl rfl) ev_int rfl) (B4.d hp) (B4.d hq))) av_nil)) (R_law_lean.mk _ _ (dens_ne p q) (big_mul (B4.d hp) (B4.d hq)))) ?_
    rw [plus_eq]
inductive R_law_minus : List Kd → Kd → Prop
  | mk (p q : Rat) (hp : Small p) (hq : Small q) : R_law_minus [.im (fr p), .im (fr q)] (.im (fr (p - q)))
theorem g_law_minus (M : Mods K mg) (G_law_lean : PFn P w K mg base T "_law_lean" s_law_lean ["_law_top", "_law_base"] 1 R_law_lean) : PFn P w K mg base T "_law_minus" s_law_minus ["_law_x", "_law_y"] 2 R_law_minus := by
  refine pf_of (T := T) M.f_law_minus sc_law_minus (fun ks k h => by cases h; rfl) (fun _ _ _ _ _ _ us hl => match us, hl with | [_, _], _ => rfl) fun f cdv A outer s H hr gd => ⟨_,
    (pss_one (ps_ret (pe_gf G_law_lean hr (by decide) gd (by rfl) (pa_cons (pe_op op_sub (pe_op op_mulW (pe_ix (ixT (K := K) rfl) (pv 0) pe_int (fun _ _ => rfl)) (pe_ix (ixT (K := K) rfl) (pv 1) pe_int (fun _ _ => rfl))) (pe_op op_mulW (pe_ix (ixT (K := K) rfl) (pv 1) pe_int (fun _ _ => rfl)) (pe_ix (ixT (K := K) rfl) (pv 0) pe_int (fun _ _ => rfl)))) (pa_cons (pe_op op_mulW (pe_ix (ixT (K := K) rfl) (pv 0) pe_int (fun _ _ => rfl)) (pe_ix (ixT (K := K) rfl) (pv 1) pe_int (fun _ _ => rfl))) pa_nil))))), fun ks k h => ?_⟩
  cases h with
  | mk p q hp hq =>
    refine st_ret (ev_call (av_cons (ev_opI0 (ev_mulB (ev_ixT (ev_var rfl rfl) ev_int rfl) (ev_ixT (ev_var rfl rfl) ev_int rfl) (B4.n hp) (B4.d hq)) (ev_mulB (ev_ixT (ev_var rfl rfl) ev_int rfl) (ev_ixT (ev_var rfl rfl) ev_int rfl) (B4.n hq) (B4.d hp))) (av_cons ((ev_mulB (ev_ixT (ev_var rfl rfl) ev_int rfl) (ev_ixT (ev_var rfl rfl) ev_int rfl) (B4.d hp) (B4.d hq))) av_nil)) (R_law_lean.mk _ _ (dens_ne p q) (big_mul (B4.d hp) (B4.d hq)))) ?_
    rw [minus_eq]
inductive R_law_times : List Kd → Kd → Prop
  | mk (p q : Rat) (hp : Small p) (hq : Small q) : R_law_times [.im (fr p), .im (fr q)] (.im (fr (p * q)))
theorem g_law_times (M : Mods K mg) (G_law_lean : PFn P w K mg base T "_law_lean" s_law_lean ["_law_top", "_law_base"] 1 R_law_lean) : PFn P w K mg base T "_law_times" s_law_times ["_law_x", "_law_y"] 2 R_law_times := by
  refine pf_of (T := T) M.f_law_times sc_law_times (fun ks k h => by cases h; rfl) (fun _ _ _ _ _ _ us hl => match us, hl with | [_, _], _ => rfl) fun f cdv A outer s H hr gd => ⟨_,
    (pss_one (ps_ret (pe_gf G_law_lean hr (by decide) gd (by rfl) (pa_cons (pe_op op_mulW (pe_ix (ixT (K := K) rfl) (pv 0) pe_int (fun _ _ => rfl)) (pe_ix (ixT (K := K) rfl) (pv 1) pe_int (fun _ _ => rfl))) (pa_cons (pe_op op_mulW (pe_ix (ixT (K := K) rfl) (pv 0) pe_int (fun _ _ => rfl)) (pe_ix (ixT (K := K) rfl) (pv 1) pe_int (fun _ _ => rfl))) pa_nil))))), fun ks k h => ?_⟩
  cases h with
  | mk p q hp hq =>
    refine st_ret (ev_call (av_cons (ev_mulB (ev_ixT (ev_var rfl rfl) ev_int rfl) (ev_ixT (ev_var rfl rfl) ev_int rfl) (B4.n hp) (B4.n hq)) (av_cons ((ev_mulB (ev_ixT (ev_var rfl rfl) ev_int rfl) (ev_ixT (ev_var rfl rfl) ev_int rfl) (B4.d hp) (B4.d hq))) av_nil)) (R_law_lean.mk _ _ (dens_ne p q) (big_mul (B4.d hp) (B4.d hq)))) ?_
    rw [times_eq]
inductive R_law_over : List Kd → Kd → Prop
  | mk (p q : Rat) (hp : Small p) (hq : Small q) (h0 : q ≠ 0) : R_law_over [.im (fr p), .im (fr q)] (.im (fr (p / q)))
theorem g_law_over (M : Mods K mg) (G_law_lean : PFn P w K mg base T "_law_lean" s_law_lean ["_law_top", "_law_base"] 1 R_law_lean) : PFn P w K mg base T "_law_over" s_law_over ["_law_x", "_law_y"] 2 R_law_over := by
  refine pf_of (T := T) M.f_law_over sc_law_over (fun ks k h => by cases h; rfl) (fun _ _ _ _ _ _ us hl => match us, hl with | [_, _], _ => rfl) fun f cdv A outer s H hr gd => ⟨_,
    (pss_one (ps_ret (pe_gf G_law_lean hr (by decide) gd (by rfl) (pa_cons (pe_op op_mulW (pe_ix (ixT (K := K) rfl) (pv 0) pe_int (fun _ _ => rfl)) (pe_ix (ixT (K := K) rfl) (pv 1) pe_int (fun _ _ => rfl))) (pa_cons (pe_op op_mulW (pe_ix (ixT (K := K) rfl) (pv 0) pe_int (fun _ _ => rfl)) (pe_ix (ixT (K := K) rfl) (pv 1) pe_int (fun _ _ => rfl))) pa_nil))))), fun ks k h => ?_⟩
  cases h with
  | mk p q hp hq h0 =>
    refine st_ret (ev_call (av_cons (ev_mulB (ev_ixT (ev_var rfl rfl) ev_int rfl) (ev_ixT (ev_var rfl rfl) ev_int rfl) (B4.n hp) (B4.d hq)) (av_cons (ev_mulB (ev_ixT (ev_var rfl rfl) ev_int rfl) (ev_ixT (ev_var rfl rfl) ev_int rfl) (B4.d hp) (B4.n hq)) av_nil)) (R_law_lean.mk _ _ (Int.mul_ne_zero (den_ne p) (num_ne h0)) (big_mul (B4.d hp) (B4.n hq)))) ?_
    rw [over_eq]
inductive R_law_below : List Kd → Kd → Prop
  | mk (p q : Rat) (hp : Small p) (hq : Small q) : R_law_below [.im (fr p), .im (fr q)] (.im (.bl (decide (p < q))))
theorem g_law_below (M : Mods K mg)  : PFn P w K mg base T "_law_below" s_law_below ["_law_x", "_law_y"] 1 R_law_below := by
  refine pf_of (T := T) M.f_law_below sc_law_below (fun ks k h => by cases h; rfl) (fun _ _ _ _ _ _ us hl => match us, hl with | [_, _], _ => rfl) fun f cdv A outer s H hr gd => ⟨_,
    (pss_one (ps_ret (pe_cmpR op_lt (pe_op op_mulW (pe_ix (ixT (K := K) rfl) (pv 0) pe_int (fun _ _ => rfl)) (pe_ix (ixT (K := K) rfl) (pv 1) pe_int (fun _ _ => rfl))) (pe_op op_mulW (pe_ix (ixT (K := K) rfl) (pv 1) pe_int (fun _ _ => rfl)) (pe_ix (ixT (K := K) rfl) (pv 0) pe_int (fun _ _ => rfl))) (nomark _)))), fun ks k h => ?_⟩
  cases h with
  | mk p q hp hq =>
    refine st_ret (ev_opB0 (ev_mulB (ev_ixT (ev_var rfl rfl) ev_int rfl) (ev_ixT (ev_var rfl rfl) ev_int rfl) (B4.n hp) (B4.d hq)) (ev_mulB (ev_ixT (ev_var rfl rfl) ev_int rfl) (ev_ixT (ev_var rfl rfl) ev_int rfl) (B4.n hq) (B4.d hp))) ?_
    rw [← less_eq]
inductive R_law_as_state : List Kd → Kd → Prop
  | mk (n s : Nat) (hn : n ≤ 4) : R_law_as_state [.im (.int ((s : Nat) : Int)), .im (.int ((n : Nat) : Int))] (.im (stD n s))
theorem g_law_as_state (M : Mods K mg)  : PFn P w K mg base T "_law_as_state" s_law_as_state ["_law_number", "_law_few"] 1 R_law_as_state := by
  refine pf_of (T := T) M.f_law_as_state sc_law_as_state (fun ks k h => by cases h; rfl) (fun _ _ _ _ _ _ us hl => match us, hl with | [_, _], _ => rfl) fun f cdv A outer s H hr gd => ⟨_,
    (pss_one (ps_ret (pe_callTy (tupK (K := K) rfl) (by rfl) M.n_tuple PyProof.Rows.boot_tuple (pa_cons (pe_lc (own := [("_law_at", 2)]) (g := gName 2) (tt := tYes) rfl sc_law_as_state.nd (pi_range1 (by rfl) M.n_range (pa_cons (pv 1) pa_nil)) (blkOk_by (N := nm_law_as_state) (sc := defScope s_law_as_state) (by decide +kernel)) (fun _ _ _ _ _ => (pg_name (i := 2) sc_law_as_state.nd rfl (.inl rfl))) (fun _ _ _ _ _ => pts_nil) (fun _ _ _ _ _ => (pe_op op_mod (pe_callTy c_int (by rfl) M.n_int PyProof.Rows.boot_int (pa_cons (pe_op op_shr (pv 0) (pv 2)) pa_nil)) pe_int))) pa_nil)))), fun ks k h => ?_⟩
  cases h with
  | mk n s hn =>
    exact st_ret (ev_tupL (ev_ls (ev_lcA (it_rngN (av_cons ((ev_var rfl rfl)) av_nil) (by omega)) (fun i hi => ev_mod2 (ev_int1 (ev_shrN (ev_var rfl rfl) (ev_var rfl rfl))) ev_int) (by omega) (by decide)))) rfl
inductive R_law_heard : List Kd → Kd → Prop
  | mk (N : Net) (c s : Nat) (h : WOk N) (hc : c < N.n) : R_law_heard [.im (netD N), .im (.int ((c : Nat) : Int)), .im (.int ((s : Nat) : Int))] (.im (fr (heard N c s)))
theorem part_bd {N : Net} (h : WOk N) (c s k : Nat) (hk : k ≤ N.n) : Bd 59 33 (sm k fun j => if bit s j = 1 then N.W c j else 0) := by
  have := h.le
  exact Bd.sm4 (fun j _ => (h.w c j).ite) (by omega)
theorem g_law_heard (M : Mods K mg) (G_law_plus : PFn P w K mg base T "_law_plus" s_law_plus ["_law_x", "_law_y"] 2 R_law_plus) : PFn P w K mg base T "_law_heard" s_law_heard ["_law_net", "_law_cell", "_law_number"] 3 R_law_heard := by
  refine pf_of (T := T) M.f_law_heard sc_law_heard (fun ks k h => by cases h; rfl) (fun _ _ _ _ _ _ us hl => match us, hl with | [_, _, _], _ => rfl) fun f cdv A outer s H hr gd => ⟨_,
    (pss_cons (ps_set (i := 3) sc_law_heard.nd rfl (.inl rfl) (pe_tup (pa_cons pe_int (pa_cons pe_int pa_nil))))
      (pss_cons (ps_for PassesOwn.never rfl (pi_ent (by rfl) M.n_enumerate (pa_cons (pe_ix (ixT (K := K) rfl) (pe_ix (ixT (K := K) rfl) (pv 0) pe_int (fun _ _ => rfl)) (pv 1) (fun _ _ => rfl)) pa_nil)) (pg_tup rfl (pgs_cons (pg_name (i := 4) sc_law_heard.nd rfl (.inl rfl)) (pgs_cons (pg_name (i := 5) sc_law_heard.nd rfl (.inl rfl)) pgs_nil)))
      (pss_one (ps_if (pt_cmpR op_eq (pe_op op_mod (pe_callTy c_int (by rfl) M.n_int PyProof.Rows.boot_int (pa_cons (pe_op op_shr (pv 2) (pv 4)) pa_nil)) pe_int) pe_int (nomark _)) (pss_one (ps_set (i := 3) sc_law_heard.nd rfl (.inl rfl) (pe_gf G_law_plus hr (by decide) gd (by rfl) (pa_cons (pv 3) (pa_cons (pv 5) pa_nil))))) pss_nil)))
      (pss_one (ps_ret (pv 3))))), fun ks k h => ?_⟩
  cases h with
  | mk N c s h hc =>
    have e : ∀ {f : Nat → D}, ((List.range N.n).map f).length = N.n := len_row
    refine st_seq (Γ1 := [.im (netD N), .im (.int ((c : Nat) : Int)), .im (.int ((s : Nat) : Int)), .im (fr 0), .none, .none]) (st_set (ev_lit (q := 0) ev_int ev_int rfl rfl)) ?_
    refine st_seqP (N1 := fun Γ => ∃ s4 s5, Γ = [.im (netD N), .im (.int ((c : Nat) : Int)), .im (.int ((s : Nat) : Int)), .im (fr (heard N c s)), s4, s5]) (st_forP (it_ent (av_cons (ev_ixT (ev_ixT (ev_var rfl rfl) ev_int rfl) (ev_var rfl rfl) (at_row hc)) av_nil) (dd := fun i => fr (N.W c i)) fun i hi => get_row hi) (fun z => z) (fun i Γ => ∃ s4 s5, Γ = [.im (netD N), .im (.int ((c : Nat) : Int)), .im (.int ((s : Nat) : Int)), .im (fr (sm i fun j => if bit s j = 1 then N.W c j else 0)), s4, s5]) ⟨_, _, rfl⟩ ?_ ?_) ?_
    · rintro i Γ hi ⟨s4, s5, rfl⟩
      rw [e] at hi
      have e3 : (sm (i + 1) fun j => if bit s j = 1 then N.W c j else 0) = (sm i fun j => if bit s j = 1 then N.W c j else 0) + (if bit s i = 1 then N.W c i else 0) := rfl
      refine st_if (tv_test (ev_eqI (ev_mod2 (ev_int1 (ev_shrN (ev_var rfl rfl) (ev_var rfl rfl))) ev_int) ev_int)) (fun z => ?_) fun z => ?_
      · rw [bit_dec] at z
        have z := of_decide_eq_true z
        refine (st_set (ev_call (av_cons ((ev_var rfl rfl)) (av_cons ((ev_var rfl rfl)) av_nil)) (R_law_plus.mk _ _ (part_bd h c s i (by omega)).to (h.w _ _).to))).to (fun Γ e => ⟨.im (.int ((i : Nat) : Int)), .im (fr (N.W c i)), e.trans ?_⟩) fun _ z => z
        rw [e3, if_pos z]
        rfl
      · rw [bit_dec] at z
        have z := of_decide_eq_false z
        refine st_next.to (fun Γ e => ⟨.im (.int ((i : Nat) : Int)), .im (fr (N.W c i)), e.trans ?_⟩) fun _ z => z
        rw [e3, if_neg z, Rat.add_zero]
        rfl
    · rintro Γ ⟨s4, s5, rfl⟩
      rw [e]
      exact ⟨s4, s5, rfl⟩
    · rintro Γ ⟨s4, s5, rfl⟩
      exact st_ret (ev_var rfl rfl) rfl
theorem sum_ons (f : Nat → Bool) : ∀ n, (given n f fun i => ((2 ^ i : Nat) : Int)).sum = ((nm n f : Nat) : Int)
  | 0 => rfl
  | n + 1 => by
    show _ = ((nm n f + (if f n then 2 ^ n else 0) : Nat) : Int)
    cases h : f n with
    | true =>
      rw [given_yes h, List.sum_append, sum_ons f n]
      simp
    | false =>
      rw [given_no h, sum_ons f n]
      simp
abbrev stepsL (N : Net) : List D := (List.range (2 ^ N.n)).map fun s => .int ((next N s : Nat) : Int)
inductive R_law_wishes : List Kd → Kd → Prop
  | mk (N : Net) (h : NetOk N) : R_law_wishes [.im (netD N)] (.fl (stepsL N))
theorem g_law_wishes (M : Mods K mg) (G_law_below : PFn P w K mg base T "_law_below" s_law_below ["_law_x", "_law_y"] 1 R_law_below) (G_law_heard : PFn P w K mg base T "_law_heard" s_law_heard ["_law_net", "_law_cell", "_law_number"] 3 R_law_heard) : PFn P w K mg base T "_law_wishes" s_law_wishes ["_law_net"] 4 R_law_wishes := by
  refine pf_of (T := T) M.f_law_wishes sc_law_wishes (fun ks k h => by cases h; rfl) (fun _ _ _ _ _ _ us hl => match us, hl with | [_], _ => rfl) fun f cdv A outer s H hr gd => ⟨_,
    (pss_cons (ps_par (i := 1) (j := 2) rfl sc_law_wishes.nd rfl rfl (by decide) rfl rfl (pa_cons (pe_callB (lenK (K := K) rfl) (by rfl) M.n_len PySem.boot_len (pa_cons (pe_ix (ixT (K := K) rfl) (pv 0) pe_int (fun _ _ => rfl)) pa_nil)) (pa_cons (pe_lst pa_nil) pa_nil)) (by rfl))
      (pss_cons (ps_for PassesOwn.never rfl (pi_range1 (by rfl) M.n_range (pa_cons (pe_op op_shl pe_int (pv 1)) pa_nil)) (pg_name (i := 3) sc_law_wishes.nd rfl (.inr rfl))
      (pss_cons (ps_setLc (i := 4) (own := [("_law_at", 5)]) (g := gName 5) rfl sc_law_wishes.nd rfl rfl (sw_true rfl rfl rfl (by decide +kernel)) (pi_range1 (by rfl) M.n_range (pa_cons (pv 1) pa_nil)) (blkOk_by (N := nm_law_wishes) (sc := defScope s_law_wishes) (by decide +kernel)) (fun _ _ _ _ _ => (pg_name (i := 5) sc_law_wishes.nd rfl (.inl rfl))) (fun _ _ _ _ _ => (pts_one (pt_val (pe_gf G_law_below hr (by decide) gd (by rfl) (pa_cons (pe_ix (ixT (K := K) rfl) (pe_ix (ixT (K := K) rfl) (pv 0) pe_int (fun _ _ => rfl)) (pv 5) (fun _ _ => rfl)) (pa_cons (pe_gf G_law_heard hr (by decide) gd (by rfl) (pa_cons (pv 0) (pa_cons (pv 5) (pa_cons (pv 3) pa_nil)))) pa_nil)))))) (fun _ _ _ _ _ => (pe_op op_shl pe_int (pv 5))))
      (pss_one (ps_expr (pe_bm PySem.F.plainAttrs_list PySem.F.slot_list_append PySem.F.type_list_append mt_append (pv 2) (pa_cons (pe_callB (sumK (K := K) rfl rfl) (by rfl) M.n_sum PyProof.Rows.boot_sum (pa_cons (pv 4) pa_nil)) pa_nil))))))
      (pss_one (ps_ret (pv 2))))), fun ks k h => ?_⟩
  cases h with
  | mk N h =>
    have hl := h.le
    have hp := pow16 hl
    refine st_seq (Γ1 := [.im (netD N), .im (.int ((N.n : Nat) : Int)), .own [], .none, .none, .none]) (st_parF ((ev_lenT (ev_ixT (ev_var rfl rfl) ev_int rfl)).as (k' := .im (.int ((N.n : Nat) : Int))) (by rw [row_len])) (ev_lst (ds := []) av_nil)) ?_
    refine st_seqP (N1 := fun Γ => ∃ s3 s4, Γ = [.im (netD N), .im (.int ((N.n : Nat) : Int)), .own (stepsL N), s3, s4, .none]) (st_forP (n := 2 ^ N.n) (it_rngN (av_cons (ev_shl1 ev_int (ev_var rfl rfl) (by omega)) av_nil) (by omega)) (fun z => z) (fun i Γ => ∃ s3 s4, Γ = [.im (netD N), .im (.int ((N.n : Nat) : Int)), .own ((List.range i).map fun s => .int ((next N s : Nat) : Int)), s3, s4, .none]) ⟨_, _, rfl⟩ ?_ (fun Γ h => h)) ?_
    · rintro i Γ hi ⟨s3, s4, rfl⟩
      refine st_seq (Γ1 := [.im (netD N), .im (.int ((N.n : Nat) : Int)), .own ((List.range i).map fun s => .int ((next N s : Nat) : Int)), .im (.int ((i : Nat) : Int)), .ls ((given N.n (HnQ.wants N i) fun j => ((2 ^ j : Nat) : Int)).map D.int), .none]) (st_setLs ((ev_lc (n := N.n) (f := HnQ.wants N i) (dd := fun j => .int ((2 ^ j : Nat) : Int)) (it_rngN (av_cons ((ev_var rfl rfl)) av_nil) (by omega)) (fun j hj => tv_B (ev_call (av_cons (ev_ixT (ev_ixT (ev_var rfl rfl) ev_int rfl) (ev_var rfl rfl) (at_row hj)) (av_cons ((ev_call (av_cons ((ev_var rfl rfl)) (av_cons ((ev_var rfl rfl)) (av_cons ((ev_var rfl rfl)) av_nil))) (R_law_heard.mk _ _ _ h.toWOk hj))) av_nil)) (R_law_below.mk _ _ (h.m _).to (heard_bd h.toWOk _ _).to))) (fun j hj _ => ev_shl1 ev_int (ev_var rfl rfl) (by omega)) (by omega) (by decide)).as (congrArg Kd.fl (given_map D.int _ _ _)))) ?_
      refine (st_app (i := 2) (d := .int ((next N i : Nat) : Int)) rfl ?_ ((ev_sum (ev_var rfl rfl)).as ?_)).to (fun Γ e => ⟨.im (.int ((i : Nat) : Int)), .none, e.trans ?_⟩) fun _ z => z
      · rw [List.length_map, List.length_range]
        omega
      · rw [sum_ons]
        rfl
      · rw [List.range_succ, List.map_append]
        rfl
    · rintro Γ ⟨s3, s4, rfl⟩
      exact st_retOwn (i := 2) rfl rfl
abbrev liftP (N : Net) (i : Nat) : D := .tup [fr ((lift N).M i), fr (HnQ.step N i)]
abbrev liftL (N : Net) : List D := (List.range N.n).map (liftP N)
theorem spareK_bd {N : Net} (h : NetOk N) {i k : Nat} {x : Rat} (e : spareK N i k = some x) : Bd 66 39 x := by
  unfold spareK at e
  split at e
  · cases e
  · rename_i hne
    cases e
    have q := leastL_mem hne
    unfold oversK at q
    rw [List.mem_filter, List.mem_map] at q
    obtain ⟨⟨s, _, e⟩, _⟩ := q
    unfold oversK
    rw [← e]
    exact over_bd h i s
inductive R_law_lifted : List Kd → Kd → Prop
  | mk (N : Net) (h : NetOk N) : R_law_lifted [.im (netD N)] (.fl (liftL N))
theorem g_law_lifted (M : Mods K mg) (G_law_minus : PFn P w K mg base T "_law_minus" s_law_minus ["_law_x", "_law_y"] 2 R_law_minus) (G_law_heard : PFn P w K mg base T "_law_heard" s_law_heard ["_law_net", "_law_cell", "_law_number"] 3 R_law_heard) (G_law_below : PFn P w K mg base T "_law_below" s_law_below ["_law_x", "_law_y"] 1 R_law_below) (G_law_times : PFn P w K mg base T "_law_times" s_law_times ["_law_x", "_law_y"] 2 R_law_times) (G_law_plus : PFn P w K mg base T "_law_plus" s_law_plus ["_law_x", "_law_y"] 2 R_law_plus) : PFn P w K mg base T "_law_lifted" s_law_lifted ["_law_net"] 4 R_law_lifted := by
  refine pf_of (T := T) M.f_law_lifted sc_law_lifted (fun ks k h => by cases h; rfl) (fun _ _ _ _ _ _ us hl => match us, hl with | [_], _ => rfl) fun f cdv A outer s H hr gd => ⟨_,
    (pss_cons (ps_par (i := 1) (j := 2) rfl sc_law_lifted.nd rfl rfl (by decide) rfl rfl (pa_cons (pe_callB (lenK (K := K) rfl) (by rfl) M.n_len PySem.boot_len (pa_cons (pe_ix (ixT (K := K) rfl) (pv 0) pe_int (fun _ _ => rfl)) pa_nil)) (pa_cons (pe_lst pa_nil) pa_nil)) (by rfl))
      (pss_cons (ps_for PassesOwn.never rfl (pi_range1 (by rfl) M.n_range (pa_cons (pv 1) pa_nil)) (pg_name (i := 3) sc_law_lifted.nd rfl (.inl rfl))
      (pss_cons (ps_set (i := 4) sc_law_lifted.nd rfl (.inl rfl) pe_non)
      (pss_cons (ps_for PassesOwn.never rfl (pi_range1 (by rfl) M.n_range (pa_cons (pe_op op_shl pe_int (pv 1)) pa_nil)) (pg_name (i := 5) sc_law_lifted.nd rfl (.inl rfl))
      (pss_cons (ps_set (i := 6) sc_law_lifted.nd rfl (.inl rfl) (pe_gf G_law_minus hr (by decide) gd (by rfl) (pa_cons (pe_gf G_law_heard hr (by decide) gd (by rfl) (pa_cons (pv 0) (pa_cons (pv 3) (pa_cons (pv 5) pa_nil)))) (pa_cons (pe_ix (ixT (K := K) rfl) (pe_ix (ixT (K := K) rfl) (pv 0) pe_int (fun _ _ => rfl)) (pv 3) (fun _ _ => rfl)) pa_nil))))
      (pss_one (ps_if (PW.pt (pw_and (pt_cmpR op_gt (pe_ix (ixT (K := K) rfl) (pv 6) pe_int (fun _ _ => rfl)) pe_int (nomark _)) (pw_and1 (PW.pt (pw_or (pt_cmpR op_isNo (pv 4) pe_non (nomark _)) (pw_or1 (pt_val (pe_gf G_law_below hr (by decide) gd (by rfl) (pa_cons (pv 6) (pa_cons (pv 4) pa_nil)))))))))) (pss_one (ps_set (i := 4) sc_law_lifted.nd rfl (.inl rfl) (pv 6))) pss_nil))))
      (pss_cons (ps_set (i := 7) sc_law_lifted.nd rfl (.inl rfl) (pe_ifExp (pt_cmpR op_isNo (pv 4) pe_non (nomark _)) (pe_tup (pa_cons pe_int (pa_cons pe_int pa_nil))) (pe_gf G_law_times hr (by decide) gd (by rfl) (pa_cons (pv 4) (pa_cons (pe_tup (pa_cons pe_int (pa_cons pe_int pa_nil))) pa_nil)))))
      (pss_one (ps_expr (pe_bm PySem.F.plainAttrs_list PySem.F.slot_list_append PySem.F.type_list_append mt_append (pv 2) (pa_cons (pe_tup (pa_cons (pe_gf G_law_plus hr (by decide) gd (by rfl) (pa_cons (pe_ix (ixT (K := K) rfl) (pe_ix (ixT (K := K) rfl) (pv 0) pe_int (fun _ _ => rfl)) (pv 3) (fun _ _ => rfl)) (pa_cons (pv 7) pa_nil))) (pa_cons (pv 7) pa_nil))) pa_nil))))))))
      (pss_one (ps_ret (pv 2))))), fun ks k h => ?_⟩
  cases h with
  | mk N h =>
    have hl := h.le
    have hp := pow16 hl
    refine st_seq (Γ1 := [.im (netD N), .im (.int ((N.n : Nat) : Int)), .own [], .none, .none, .none, .none, .none]) (st_parF ((ev_lenT (ev_ixT (ev_var rfl rfl) ev_int rfl)).as (k' := .im (.int ((N.n : Nat) : Int))) (by rw [row_len])) (ev_lst (ds := []) av_nil)) ?_
    refine st_seqP (N1 := fun Γ => ∃ s3 s4 s5 s6 s7, Γ = [.im (netD N), .im (.int ((N.n : Nat) : Int)), .own (liftL N), s3, s4, s5, s6, s7]) (st_forP (n := N.n) (it_rngN (av_cons ((ev_var rfl rfl)) av_nil) (by omega)) (fun z => z) (fun i Γ => ∃ s3 s4 s5 s6 s7, Sim s5 ∧ Sim s6 ∧ Γ = [.im (netD N), .im (.int ((N.n : Nat) : Int)), .own ((List.range i).map (liftP N)), s3, s4, s5, s6, s7]) ⟨_, _, _, _, _, .inl rfl, .inl rfl, rfl⟩ ?_ (fun Γ ⟨a, b, c, d, e, _, _, h⟩ => ⟨a, b, c, d, e, h⟩)) ?_
    · rintro i Γ hi ⟨s3, s4, s5, s6, s7, h5, h6, rfl⟩
      refine st_seq (Γ1 := [.im (netD N), .im (.int ((N.n : Nat) : Int)), .own ((List.range i).map (liftP N)), .im (.int ((i : Nat) : Int)), .im .non, s5, s6, s7]) (st_set ev_non) ?_
      refine st_seqP (N1 := fun Γ => ∃ s5 s6, Sim s5 ∧ Sim s6 ∧ Γ = [.im (netD N), .im (.int ((N.n : Nat) : Int)), .own ((List.range i).map (liftP N)), .im (.int ((i : Nat) : Int)), .im (spD (spare N i)), s5, s6, s7])
        (st_forP (n := 2 ^ N.n) (it_rngN (av_cons (ev_shl1 ev_int (ev_var rfl rfl) (by omega)) av_nil) (by omega)) (fun z => z) (fun k Γ => ∃ s5 s6, Sim s5 ∧ Sim s6 ∧ Γ = [.im (netD N), .im (.int ((N.n : Nat) : Int)), .own ((List.range i).map (liftP N)), .im (.int ((i : Nat) : Int)), .im (spD (spareK N i k)), s5, s6, s7]) ⟨_, _, h5, h6, rfl⟩ ?_ ?_) ?_
      · rintro k Γ hk ⟨s5, s6, h5, h6, rfl⟩
        have sx : Small (heard N i k - N.M i) := (over_bd h i k).to
        refine st_seq (Γ1 := [.im (netD N), .im (.int ((N.n : Nat) : Int)), .own ((List.range i).map (liftP N)), .im (.int ((i : Nat) : Int)), .im (spD (spareK N i k)), .im (.int ((k : Nat) : Int)), .im (fr (heard N i k - N.M i)), s7]) (st_set (k := .im (fr (heard N i k - N.M i))) (ev_call (av_cons ((ev_call (av_cons ((ev_var rfl rfl)) (av_cons ((ev_var rfl rfl)) (av_cons ((ev_var rfl rfl)) av_nil))) (R_law_heard.mk N i k h.toWOk hi))) (av_cons (ev_ixT (ev_ixT (ev_var rfl rfl) ev_int rfl) (ev_var rfl rfl) (at_row hi)) av_nil)) (R_law_minus.mk (heard N i k) (N.M i) (heard_bd h.toWOk _ _).to (h.m _).to))) ?_
        have cs := spareK_succ (N := N) (i := i) (k := k)
        cases q : spareK N i k with
        | none =>
          rw [q] at cs
          refine st_if ((tv_and (tv_test (ev_opB0 (ev_ixT (ev_var rfl rfl) ev_int rfl) ev_int)) fun _ => tv_or (b := true) (c := true) (tv_test (ev_isN (d := spD none) (ev_var rfl rfl))) fun z => nomatch z).as (c := decide (0 < heard N i k - N.M i)) ?_) (fun z => ?_) fun z => ?_
          · show (decide (0 < (heard N i k - N.M i).num) && (true || true)) = _
            rw [num_pos, Bool.true_or, Bool.and_true]
          · rw [if_pos (of_decide_eq_true z)] at cs
            refine (st_set (ev_var rfl rfl)).to (fun Γ e => ?_) fun _ z => z
            subst e
            rw [cs]
            exact ⟨_, _, .inr ⟨_, rfl⟩, .inr ⟨_, rfl⟩, rfl⟩
          · rw [if_neg (of_decide_eq_false z)] at cs
            refine st_next.to (fun Γ e => ?_) fun _ z => z
            subst e
            rw [cs]
            exact ⟨_, _, .inr ⟨_, rfl⟩, .inr ⟨_, rfl⟩, rfl⟩
        | some m =>
          rw [q] at cs
          refine st_if ((tv_and (tv_test (ev_opB0 (ev_ixT (ev_var rfl rfl) ev_int rfl) ev_int)) fun _ => tv_or (b := false) (tv_test (ev_isN (d := spD (some m)) (ev_var rfl rfl))) fun _ => tv_B (ev_call (av_cons ((ev_var rfl rfl)) (av_cons ((ev_var rfl rfl)) av_nil)) (R_law_below.mk _ _ sx (spareK_bd h q).to))).as (c := decide (0 < heard N i k - N.M i) && decide (heard N i k - N.M i < m)) ?_) (fun z => ?_) fun z => ?_
          · show (decide (0 < (heard N i k - N.M i).num) && (false || decide (heard N i k - N.M i < m))) = _
            rw [num_pos, Bool.false_or]
          · obtain ⟨z1, z2⟩ := Bool.and_eq_true_iff.mp z
            have cs : spareK N i (k + 1) = some (if heard N i k - N.M i < m then heard N i k - N.M i else m) := by rw [cs, if_pos (of_decide_eq_true z1)]
            rw [if_pos (of_decide_eq_true z2)] at cs
            refine (st_set (ev_var rfl rfl)).to (fun Γ e => ?_) fun _ z => z
            subst e
            rw [cs]
            exact ⟨_, _, .inr ⟨_, rfl⟩, .inr ⟨_, rfl⟩, rfl⟩
          · have cs : spareK N i (k + 1) = some m := by
              rw [cs]
              by_cases h1 : 0 < heard N i k - N.M i
              · rw [if_pos h1]
                have h2 : ¬ heard N i k - N.M i < m := fun h2 => by
                  rw [decide_eq_true h1, decide_eq_true h2] at z
                  cases z
                show some (if heard N i k - N.M i < m then _ else m) = some m
                rw [if_neg h2]
              · rw [if_neg h1]
            refine st_next.to (fun Γ e => ?_) fun _ z => z
            subst e
            rw [cs]
            exact ⟨_, _, .inr ⟨_, rfl⟩, .inr ⟨_, rfl⟩, rfl⟩
      · rintro Γ ⟨s5, s6, h5, h6, rfl⟩
        exact ⟨s5, s6, h5, h6, rfl⟩
      · rintro Γ ⟨s5, s6, h5, h6, rfl⟩
        refine st_seq (Γ1 := [.im (netD N), .im (.int ((N.n : Nat) : Int)), .own ((List.range i).map (liftP N)), .im (.int ((i : Nat) : Int)), .im (spD (spare N i)), s5, s6, .im (fr (HnQ.step N i))]) ?_ ?_
        · unfold HnQ.step
          cases q : spare N i with
          | none => exact st_set (ev_if (b := true) (tv_test (ev_isN (d := spD none) (ev_var rfl rfl))) (fun _ => ev_lit (q := 1) ev_int ev_int rfl rfl) fun z => nomatch z)
          | some m => exact st_set (k := .im (fr (1 / 2 * m))) (ev_if (b := false) (tv_test (ev_isN (d := spD (some m)) (ev_var rfl rfl))) (fun z => nomatch z) fun _ => Ev.as (ev_call (av_cons ((ev_var rfl rfl)) (av_cons (ev_lit (q := 1 / 2) ev_int ev_int half_num half_den) av_nil)) (R_law_times.mk m (1 / 2) (spare_bd h q).to Bd.half.to)) (by rw [Rat.mul_comm]))
        · refine (st_app (i := 2) (d := liftP N i) rfl ?_ (ev_tup (ds := [_, _]) (av_cons ((ev_call (av_cons (ev_ixT (ev_ixT (ev_var rfl rfl) ev_int rfl) (ev_var rfl rfl) (at_row hi)) (av_cons ((ev_var rfl rfl)) av_nil)) (R_law_plus.mk (N.M i) (HnQ.step N i) (h.m _).to (step_bd h _).to))) (av_cons ((ev_var rfl rfl)) av_nil)))).to (fun Γ e => ?_) fun _ z => z
          · rw [List.length_map, List.length_range]
            omega
          · have e2 : ∀ s5 s6 : Slot, Sim s5 → Sim s6 → scrub [.im (netD N), .im (.int ((N.n : Nat) : Int)), .own ((List.range i).map (liftP N)), .im (.int ((i : Nat) : Int)), .im (spD (spare N i)), s5, s6, .im (fr (HnQ.step N i))] = [.im (netD N), .im (.int ((N.n : Nat) : Int)), .own ((List.range i).map (liftP N)), .im (.int ((i : Nat) : Int)), .im (spD (spare N i)), s5, s6, .im (fr (HnQ.step N i))] := fun s5 s6 h5 h6 => by
              rcases h5 with rfl | ⟨_, rfl⟩ <;> rcases h6 with rfl | ⟨_, rfl⟩ <;> rfl
            rw [e, e2 s5 s6 h5 h6, List.range_succ, List.map_append]
            exact ⟨_, _, _, _, _, h5, h6, rfl⟩
    · rintro Γ ⟨s3, s4, s5, s6, s7, rfl⟩
      exact st_retOwn (i := 2) rfl rfl
end
end Hn
end

section
set_option Elab.async false
set_option linter.all false
set_option maxRecDepth 100000
set_option maxHeartbeats 1000000
namespace Hn
open PySem PySem.Spec PyProof.Rows L2 NdefX LamX HnQ
section
variable {P : Program} {w : World} {K : PySem.W.Frag} {mg : Str → Option Value} {base : Heap} {T : List NTab}
inductive R_law_drop : List Kd → Kd → Prop
  | mk (N : Net) (c : Nat → Rat) (h : NetOk N) (hc : CBd c) : R_law_drop [.im (rowF N.n c), .ls (liftL N)] (.im (fr (dropR N c)))
theorem g_law_drop (M : Mods K mg) (G_law_times : PFn P w K mg base T "_law_times" s_law_times ["_law_x", "_law_y"] 2 R_law_times) (G_law_below : PFn P w K mg base T "_law_below" s_law_below ["_law_x", "_law_y"] 1 R_law_below) : PFn P w K mg base T "_law_drop" s_law_drop ["_law_scales", "_law_lifted_here"] 3 R_law_drop := by
  refine pf_of (T := T) M.f_law_drop sc_law_drop (fun ks k h => by cases h; rfl) (fun _ _ _ _ _ _ us hl => match us, hl with | [_, _], _ => rfl) fun f cdv A outer s H hr gd => ⟨_,
    (pss_cons (ps_set (i := 2) sc_law_drop.nd rfl (.inl rfl) (pe_gf G_law_times hr (by decide) gd (by rfl) (pa_cons (pe_ix (ixT (K := K) rfl) (pv 0) pe_int (fun _ _ => rfl)) (pa_cons (pe_ix (ixT (K := K) rfl) (pe_ix (ixL (K := K) rfl) (pv 1) pe_int (fun _ _ => rfl)) pe_int (fun _ _ => rfl)) pa_nil))))
      (pss_cons (ps_for PassesOwn.never rfl (pi_zipM (by rfl) M.n_zip (pa_cons (pv 0) (pa_cons (pv 1) pa_nil))) (pg_tup rfl (pgs_cons (pg_name (i := 3) sc_law_drop.nd rfl (.inl rfl)) (pgs_cons (pg_name (i := 4) sc_law_drop.nd rfl (.inl rfl)) pgs_nil)))
      (pss_cons (ps_set (i := 5) sc_law_drop.nd rfl (.inl rfl) (pe_gf G_law_times hr (by decide) gd (by rfl) (pa_cons (pv 3) (pa_cons (pe_ix (ixT (K := K) rfl) (pv 4) pe_int (fun _ _ => rfl)) pa_nil))))
      (pss_one (ps_set (i := 2) sc_law_drop.nd rfl (.inl rfl) (pe_ifExp (pt_val (pe_gf G_law_below hr (by decide) gd (by rfl) (pa_cons (pv 5) (pa_cons (pv 2) pa_nil)))) (pv 5) (pv 2))))))
      (pss_one (ps_ret (pv 2))))), fun ks k h => ?_⟩
  cases h with
  | mk N c h hc =>
    have hl := h.le
    have h0 := h.pos
    have bd : ∀ i, Small (c i * HnQ.step N i) := fun i => ((hc i).mul (step_bd h i)).to
    have ln : ((List.range N.n).map fun i => c i * HnQ.step N i).length = N.n := by simp
    have lm : ∀ i, Small (leastT ((List.range N.n).map fun i => c i * HnQ.step N i) i) := fun i => by
      obtain ⟨j, _, e⟩ := List.mem_map.mp (leastT_mem (l := (List.range N.n).map fun i => c i * HnQ.step N i) (i := i) (by rw [ln]; exact h0))
      rw [← e]
      exact bd j
    have l0 : leastT ((List.range N.n).map fun i => c i * HnQ.step N i) 0 = c 0 * HnQ.step N 0 := by
      unfold leastT
      cases q : N.n with
      | zero => omega
      | succ m => rw [List.range_succ_eq_map]; rfl
    have ix0 : atI (liftL N) 0 = some (liftP N 0) := at_row (x := 0) h0
    have ixs : atI ((List.range N.n).map fun i => fr (c i)) 0 = some (fr (c 0)) := at_row (x := 0) h0
    refine st_seq (Γ1 := [.im (rowF N.n c), .par (.ls (liftL N)), .im (fr (leastT ((List.range N.n).map fun i => c i * HnQ.step N i) 0)), .none, .none, .none]) (st_set ((ev_call (av_cons (ev_ixT (ev_var rfl rfl) ev_int ixs) (av_cons (ev_ixT (ev_ixL (ev_var rfl rfl) ev_int ix0) ev_int rfl) av_nil)) (R_law_times.mk _ _ (hc 0).to (step_bd h 0).to)).as (k' := .im (fr (leastT ((List.range N.n).map fun i => c i * HnQ.step N i) 0))) (by rw [l0]))) ?_
    refine st_seqP (N1 := fun Γ => ∃ s3 s4 s5, Γ = [.im (rowF N.n c), .par (.ls (liftL N)), .im (fr (leastT ((List.range N.n).map fun i => c i * HnQ.step N i) (N.n - 1))), s3, s4, s5])
      (st_forP (w := false) (it_zipM (n := N.n) (d1 := fun i => fr (c i)) (d2 := liftP N) (av_cons ((ev_var rfl rfl)) (av_cons ((ev_var rfl rfl)) av_nil)) len_row len_row (fun i hi => get_row' hi) (fun i hi => get_row' hi)) (fun z => nomatch z) (fun i Γ => ∃ s3 s4 s5, Γ = [.im (rowF N.n c), .par (.ls (liftL N)), .im (fr (leastT ((List.range N.n).map fun i => c i * HnQ.step N i) (i - 1))), s3, s4, s5]) ⟨_, _, _, rfl⟩ ?_ (fun Γ h => h)).weak ?_
    · rintro i Γ hi ⟨s3, s4, s5, rfl⟩
      refine st_seq (Γ1 := [.im (rowF N.n c), .par (.ls (liftL N)), .im (fr (leastT ((List.range N.n).map fun i => c i * HnQ.step N i) (i - 1))), .im (fr (c i)), .im (liftP N i), .im (fr (c i * HnQ.step N i))]) (st_set (ev_call (av_cons ((ev_var rfl rfl)) (av_cons (ev_ixT (ev_var rfl rfl) ev_int rfl) av_nil)) (R_law_times.mk (c i) (HnQ.step N i) (hc i).to (step_bd h i).to))) ?_
      refine (st_set ((ev_ifD (tv_B (ev_call (av_cons ((ev_var rfl rfl)) (av_cons ((ev_var rfl rfl)) av_nil)) (R_law_below.mk _ _ (bd i) (lm _)))) (fun _ => (ev_var rfl rfl)) (fun _ => (ev_var rfl rfl))).as (k' := .im (fr (leastT ((List.range N.n).map fun i => c i * HnQ.step N i) i))) ?_)).to (fun Γ e => ?_) fun _ z => z
      · cases i with
        | zero =>
          show Kd.im (if decide (c 0 * HnQ.step N 0 < leastT _ 0) = true then fr (c 0 * HnQ.step N 0) else fr (leastT _ 0)) = _
          rw [l0, if_neg]
          intro z
          have z := of_decide_eq_true z
          exact absurd z (Rat.lt_irrefl)
        | succ j =>
          rw [leastT_succ (by rw [ln]; exact hi)]
          have e2 : ((List.range N.n).map fun i => c i * HnQ.step N i)[j + 1]'(by rw [ln]; exact hi) = c (j + 1) * HnQ.step N (j + 1) := by simp
          rw [e2]
          show Kd.im (if decide (c (j + 1) * HnQ.step N (j + 1) < leastT _ j) = true then fr (c (j + 1) * HnQ.step N (j + 1)) else fr (leastT _ j)) = _
          by_cases z : c (j + 1) * HnQ.step N (j + 1) < leastT ((List.range N.n).map fun i => c i * HnQ.step N i) j
          · rw [if_pos (decide_eq_true z), if_pos z]
          · rw [if_neg (fun y => z (of_decide_eq_true y)), if_neg z]
      · subst e
        exact ⟨_, _, _, rfl⟩
    · rintro Γ ⟨s3, s4, s5, rfl⟩
      refine st_ret (ev_var rfl rfl) ?_
      unfold leastT dropR
      rw [List.take_of_length_le (by rw [ln]; omega)]
inductive R_law_quotient : List Kd → Kd → Prop
  | mk (p q : Rat) (hp : Small p) (hq : Small q) (h0 : q ≠ 0) (hs : Small (p / q)) : R_law_quotient [.im (fr p), .im (fr q)] (.im (.int (p / q).floor))
theorem g_law_quotient (M : Mods K mg) (G_law_over : PFn P w K mg base T "_law_over" s_law_over ["_law_x", "_law_y"] 2 R_law_over) : PFn P w K mg base T "_law_quotient" s_law_quotient ["_law_over_here", "_law_drop_here"] 3 R_law_quotient := by
  refine pf_of (T := T) M.f_law_quotient sc_law_quotient (fun ks k h => by cases h; rfl) (fun _ _ _ _ _ _ us hl => match us, hl with | [_, _], _ => rfl) fun f cdv A outer s H hr gd => ⟨_,
    (pss_cons (ps_set (i := 2) sc_law_quotient.nd rfl (.inl rfl) (pe_gf G_law_over hr (by decide) gd (by rfl) (pa_cons (pv 0) (pa_cons (pv 1) pa_nil))))
      (pss_one (ps_ret (pe_op op_fdivZ (pe_ix (ixT (K := K) rfl) (pv 2) pe_int (fun _ _ => rfl)) (pe_ix (ixT (K := K) rfl) (pv 2) pe_int (fun _ _ => rfl)))))), fun ks k h => ?_⟩
  cases h with
  | mk p q hp hq h0 hs =>
    refine st_seq (Γ1 := [.im (fr p), .im (fr q), .im (fr (p / q))]) (st_set (ev_call (av_cons ((ev_var rfl rfl)) (av_cons ((ev_var rfl rfl)) av_nil)) (R_law_over.mk _ _ hp hq h0))) ?_
    refine st_ret (ev_opI (ev_ixT (ev_var rfl rfl) ev_int rfl) (ev_ixT (ev_var rfl rfl) ev_int rfl) ⟨den_ne _, ?_⟩) ?_
    · have := log4 (B4.d hs)
      omega
    · rw [floor_eq]
inductive R_law_tied : List Kd → Kd → Prop
  | mk (N : Net) (ds : List D) (i j : Nat) (x : Rat) (h : WOk N) (hi : i < N.n) (hj : j < N.n) (hx : ds[i]? = some (fr x)) (hb : Bd 4 4 x) (hp : 0 < N.W i j * N.W j i) : R_law_tied [.im (netD N), .ls ds, .im (.int ((i : Nat) : Int)), .im (.int ((j : Nat) : Int))] (.fl [fr (x * N.W i j / N.W j i)])
theorem num_mul_pos {p q : Rat} (h : 0 < p * q) : 0 < p.num * q.num := by
  have h1 : p ≠ 0 := fun z => by rw [z, Rat.zero_mul] at h; exact absurd h (by decide)
  have h2 : q ≠ 0 := fun z => by rw [z, Rat.mul_zero] at h; exact absurd h (by decide)
  by_cases a : 0 < p
  · have b : 0 < q := by
      apply Classical.byContradiction
      intro b
      have b : q ≤ 0 := Rat.not_lt.mp b
      have := Rat.mul_nonneg (Rat.le_of_lt a) (show 0 ≤ -q by grind)
      grind
    have a' := (decide_eq_decide.mp (num_pos p)).mpr a
    have b' := (decide_eq_decide.mp (num_pos q)).mpr b
    exact Int.mul_pos a' b'
  · have a : p < 0 := by grind
    have b : q < 0 := by
      apply Classical.byContradiction
      intro b
      have b : 0 ≤ q := Rat.not_lt.mp b
      have := Rat.mul_nonneg (show 0 ≤ -p by grind) b
      grind
    have a' := (decide_eq_decide.mp (num_neg p)).mpr a
    have b' := (decide_eq_decide.mp (num_neg q)).mpr b
    exact Int.mul_pos_of_neg_of_neg a' b'
theorem g_law_tied (M : Mods K mg) (G_law_over : PFn P w K mg base T "_law_over" s_law_over ["_law_x", "_law_y"] 2 R_law_over) (G_law_times : PFn P w K mg base T "_law_times" s_law_times ["_law_x", "_law_y"] 2 R_law_times) : PFn P w K mg base T "_law_tied" s_law_tied ["_law_net", "_law_scales", "_law_at", "_law_to"] 3 R_law_tied := by
  refine pf_of (T := T) M.f_law_tied sc_law_tied (fun ks k h => by cases h; rfl) (fun _ _ _ _ _ _ us hl => match us, hl with | [_, _, _, _], _ => rfl) fun f cdv A outer s H hr gd => ⟨_,
    (pss_cons (ps_par (i := 4) (j := 5) rfl sc_law_tied.nd rfl rfl (by decide) rfl rfl (pa_cons (pe_ix (ixT (K := K) rfl) (pe_ix (ixT (K := K) rfl) (pe_ix (ixT (K := K) rfl) (pv 0) pe_int (fun _ _ => rfl)) (pv 2) (fun _ _ => rfl)) (pv 3) (fun _ _ => rfl)) (pa_cons (pe_ix (ixT (K := K) rfl) (pe_ix (ixT (K := K) rfl) (pe_ix (ixT (K := K) rfl) (pv 0) pe_int (fun _ _ => rfl)) (pv 3) (fun _ _ => rfl)) (pv 2) (fun _ _ => rfl)) pa_nil)) (by rfl))
      (pss_cons (ps_if (pt_cmpR op_le (pe_op op_mulW (pe_ix (ixT (K := K) rfl) (pv 4) pe_int (fun _ _ => rfl)) (pe_ix (ixT (K := K) rfl) (pv 5) pe_int (fun _ _ => rfl))) pe_int (nomark _)) (pss_one (ps_ret (pe_lst pa_nil))) pss_nil)
      (pss_one (ps_ret (pe_lst (pa_cons (pe_gf G_law_over hr (by decide) gd (by rfl) (pa_cons (pe_gf G_law_times hr (by decide) gd (by rfl) (pa_cons (pe_ix (ixL (K := K) rfl) (pv 1) (pv 2) (fun _ _ => rfl)) (pa_cons (pv 4) pa_nil))) (pa_cons (pv 5) pa_nil))) pa_nil)))))), fun ks k h => ?_⟩
  cases h with
  | mk N ds i j x h hi hj hx hb hp =>
    have hz : N.W j i ≠ 0 := fun z => by rw [z, Rat.mul_zero] at hp; exact absurd hp (by decide)
    have hn := num_mul_pos hp
    refine st_seq (Γ1 := [.im (netD N), .par (.ls ds), .im (.int ((i : Nat) : Int)), .im (.int ((j : Nat) : Int)), .im (fr (N.W i j)), .im (fr (N.W j i))]) (st_par (av_cons (ev_ixT (ev_ixT (ev_ixT (ev_var rfl rfl) ev_int rfl) (ev_var rfl rfl) (at_row hi)) (ev_var rfl rfl) (at_row hj)) (av_cons (ev_ixT (ev_ixT (ev_ixT (ev_var rfl rfl) ev_int rfl) (ev_var rfl rfl) (at_row hj)) (ev_var rfl rfl) (at_row hi)) av_nil))) ?_
    refine st_seq (Γ1 := [.im (netD N), .par (.ls ds), .im (.int ((i : Nat) : Int)), .im (.int ((j : Nat) : Int)), .im (fr (N.W i j)), .im (fr (N.W j i))]) (st_no ((tv_test (ev_opB0 (ev_mulB (ev_ixT (ev_var rfl rfl) ev_int rfl) (ev_ixT (ev_var rfl rfl) ev_int rfl) (B4.n (h.w _ _).to) (B4.n (h.w _ _).to)) ev_int)).as ?_) st_next) ?_
    · exact decide_eq_false (by omega)
    · exact st_ret (ev_lst (ds := [_]) (av_cons ((ev_call (av_cons ((ev_call (av_cons (ev_ixL (ev_var rfl rfl) (ev_var rfl rfl) (atI_nat hx)) (av_cons ((ev_var rfl rfl)) av_nil)) (R_law_times.mk x (N.W i j) hb.to (h.w _ _).to))) (av_cons ((ev_var rfl rfl)) av_nil)) (R_law_over.mk (x * N.W i j) (N.W j i) (hb.mul (h.w _ _)).to (h.w _ _).to hz))) av_nil)) rfl
end
end Hn
end

section
set_option Elab.async false
set_option linter.all false
set_option maxRecDepth 100000
set_option maxHeartbeats 1000000
namespace Hn
open PySem PySem.Spec PyProof.Rows L2 NdefX LamX HnQ
section
variable {P : Program} {w : World} {K : PySem.W.Frag} {mg : Str → Option Value} {base : Heap} {T : List NTab}
theorem two_bd (o s i : Nat) : Bd 2 1 ((bit o i + bit s i : Nat) : Rat) := by
  have h1 := bit_le o i
  have h2 := bit_le s i
  refine ⟨?_, ?_⟩
  · show ((bit o i + bit s i : Nat) : Int).natAbs < 2 ^ 2
    rw [Int.natAbs_natCast]
    omega
  · show 1 < 2 ^ 1
    decide
theorem levP_bd {N : Net} (h : LOk N) (o s i : Nat) : Bd 110 81 (if bit o i = 1 then N.M i * ((bit o i + bit s i : Nat) : Rat) - heard N i s else N.M i * ((bit o i + bit s i : Nat) : Rat)) := by
  split
  · exact (((h.m i).mul (two_bd o s i)).sub (heard_bd h.toWOk i s)).to
  · exact ((h.m i).mul (two_bd o s i)).to
inductive R_law_level : List Kd → Kd → Prop
  | mk (N : Net) (c : Nat → Rat) (o s : Nat) (h : NetOk N) (hc : CBd c) : R_law_level [.im (netD N), .im (rowF N.n c), .ls (liftL N), .im (.int ((o : Nat) : Int)), .im (.int ((s : Nat) : Int))] (.im (fr (HnQ.level (lift N) c o s)))
theorem ix_lift {N : Net} {i : Nat} (h : i < N.n) : atI (liftL N) ((i : Nat) : Int) = some (liftP N i) := at_row h
theorem g_law_level (M : Mods K mg) (G_law_times : PFn P w K mg base T "_law_times" s_law_times ["_law_x", "_law_y"] 2 R_law_times) (G_law_minus : PFn P w K mg base T "_law_minus" s_law_minus ["_law_x", "_law_y"] 2 R_law_minus) (G_law_heard : PFn P w K mg base T "_law_heard" s_law_heard ["_law_net", "_law_cell", "_law_number"] 3 R_law_heard) (G_law_plus : PFn P w K mg base T "_law_plus" s_law_plus ["_law_x", "_law_y"] 2 R_law_plus) : PFn P w K mg base T "_law_level" s_law_level ["_law_net", "_law_scales", "_law_lifted_here", "_law_one_here", "_law_two"] 4 R_law_level := by
  refine pf_of (T := T) M.f_law_level sc_law_level (fun ks k h => by cases h; rfl) (fun _ _ _ _ _ _ us hl => match us, hl with | [_, _, _, _, _], _ => rfl) fun f cdv A outer s H hr gd => ⟨_,
    (pss_cons (ps_set (i := 5) sc_law_level.nd rfl (.inl rfl) (pe_tup (pa_cons pe_int (pa_cons pe_int pa_nil))))
      (pss_cons (ps_for PassesOwn.never rfl (pi_range1 (by rfl) M.n_range (pa_cons (pe_callB (lenK (K := K) rfl) (by rfl) M.n_len PySem.boot_len (pa_cons (pv 1) pa_nil)) pa_nil)) (pg_name (i := 6) sc_law_level.nd rfl (.inl rfl))
      (pss_cons (ps_set (i := 7) sc_law_level.nd rfl (.inl rfl) (pe_op op_add (pe_op op_mod (pe_callTy c_int (by rfl) M.n_int PyProof.Rows.boot_int (pa_cons (pe_op op_shr (pv 3) (pv 6)) pa_nil)) pe_int) (pe_op op_mod (pe_callTy c_int (by rfl) M.n_int PyProof.Rows.boot_int (pa_cons (pe_op op_shr (pv 4) (pv 6)) pa_nil)) pe_int)))
      (pss_cons (ps_set (i := 8) sc_law_level.nd rfl (.inl rfl) (pe_gf G_law_times hr (by decide) gd (by rfl) (pa_cons (pe_ix (ixT (K := K) rfl) (pe_ix (ixL (K := K) rfl) (pv 2) (pv 6) (fun _ _ => rfl)) pe_int (fun _ _ => rfl)) (pa_cons (pe_tup (pa_cons (pv 7) (pa_cons pe_int pa_nil))) pa_nil))))
      (pss_cons (ps_if (pt_cmpR op_eq (pe_op op_mod (pe_callTy c_int (by rfl) M.n_int PyProof.Rows.boot_int (pa_cons (pe_op op_shr (pv 3) (pv 6)) pa_nil)) pe_int) pe_int (nomark _)) (pss_one (ps_set (i := 8) sc_law_level.nd rfl (.inl rfl) (pe_gf G_law_minus hr (by decide) gd (by rfl) (pa_cons (pv 8) (pa_cons (pe_gf G_law_heard hr (by decide) gd (by rfl) (pa_cons (pv 0) (pa_cons (pv 6) (pa_cons (pv 4) pa_nil)))) pa_nil))))) pss_nil)
      (pss_one (ps_set (i := 5) sc_law_level.nd rfl (.inl rfl) (pe_gf G_law_plus hr (by decide) gd (by rfl) (pa_cons (pv 5) (pa_cons (pe_gf G_law_times hr (by decide) gd (by rfl) (pa_cons (pe_ix (ixT (K := K) rfl) (pv 1) (pv 6) (fun _ _ => rfl)) (pa_cons (pv 8) pa_nil))) pa_nil)))))))))
      (pss_one (ps_ret (pv 5))))), fun ks k h => ?_⟩
  cases h with
  | mk N c o s h hc =>
    have hl := h.le
    have L := lift_ok h
    generalize hf : (fun i => c i * (if bit o i = 1 then (lift N).M i * ((bit o i + bit s i : Nat) : Rat) - heard (lift N) i s else (lift N).M i * ((bit o i + bit s i : Nat) : Rat))) = f
    have fi : ∀ i, f i = c i * (if bit o i = 1 then (lift N).M i * ((bit o i + bit s i : Nat) : Rat) - heard (lift N) i s else (lift N).M i * ((bit o i + bit s i : Nat) : Rat)) := fun i => by rw [← hf]
    have fb : ∀ k, k ≤ N.n → Small (sm k f) := fun k hk => (Bd.sm4 (a := 114) (b := 85) (fun i _ => by rw [fi]; exact ((hc i).mul (levP_bd L o s i)).to) (by omega)).to
    have e0 : HnQ.level (lift N) c o s = sm N.n f := by
      rw [← lawLev_eq, ← hf]
      rfl
    rw [e0]
    refine st_seq (Γ1 := [.im (netD N), .im (rowF N.n c), .par (.ls (liftL N)), .im (.int ((o : Nat) : Int)), .im (.int ((s : Nat) : Int)), .im (fr (sm 0 f)), .none, .none, .none]) (st_set (ev_lit (q := 0) ev_int ev_int rfl rfl)) ?_
    refine st_seqP (N1 := fun Γ => ∃ s6 s7 s8, Γ = [.im (netD N), .im (rowF N.n c), .par (.ls (liftL N)), .im (.int ((o : Nat) : Int)), .im (.int ((s : Nat) : Int)), .im (fr (sm N.n f)), s6, s7, s8]) (st_forP (n := N.n) (it_rngN (av_cons ((ev_lenT (ev_var rfl rfl)).as (k' := .im (.int ((N.n : Nat) : Int))) (by rw [row_len])) av_nil) (by omega)) (fun z => z) (fun i Γ => ∃ s6 s7 s8, Γ = [.im (netD N), .im (rowF N.n c), .par (.ls (liftL N)), .im (.int ((o : Nat) : Int)), .im (.int ((s : Nat) : Int)), .im (fr (sm i f)), s6, s7, s8]) ⟨_, _, _, rfl⟩ ?_ (fun Γ h => h)) ?_
    · rintro i Γ hi ⟨s6, s7, s8, rfl⟩
      refine st_seq (Γ1 := [.im (netD N), .im (rowF N.n c), .par (.ls (liftL N)), .im (.int ((o : Nat) : Int)), .im (.int ((s : Nat) : Int)), .im (fr (sm i f)), .im (.int ((i : Nat) : Int)), .im (.int ((bit o i + bit s i : Nat) : Int)), s8]) (st_set (ev_addN (ev_mod2 (ev_int1 (ev_shrN (ev_var rfl rfl) (ev_var rfl rfl))) ev_int) (ev_mod2 (ev_int1 (ev_shrN (ev_var rfl rfl) (ev_var rfl rfl))) ev_int))) ?_
      refine st_seq (Γ1 := [.im (netD N), .im (rowF N.n c), .par (.ls (liftL N)), .im (.int ((o : Nat) : Int)), .im (.int ((s : Nat) : Int)), .im (fr (sm i f)), .im (.int ((i : Nat) : Int)), .im (.int ((bit o i + bit s i : Nat) : Int)), .im (fr ((lift N).M i * ((bit o i + bit s i : Nat) : Rat)))]) (st_set (ev_call (av_cons (ev_ixT (ev_ixL (ev_var rfl rfl) (ev_var rfl rfl) (ix_lift hi)) ev_int rfl) (av_cons (ev_lit (q := ((bit o i + bit s i : Nat) : Rat)) (ev_var rfl rfl) ev_int rfl rfl) av_nil)) (R_law_times.mk ((lift N).M i) _ (L.m i).to (two_bd o s i).to))) ?_
      refine st_seq (Γ1 := [.im (netD N), .im (rowF N.n c), .par (.ls (liftL N)), .im (.int ((o : Nat) : Int)), .im (.int ((s : Nat) : Int)), .im (fr (sm i f)), .im (.int ((i : Nat) : Int)), .im (.int ((bit o i + bit s i : Nat) : Int)), .im (fr (if bit o i = 1 then (lift N).M i * ((bit o i + bit s i : Nat) : Rat) - heard (lift N) i s else (lift N).M i * ((bit o i + bit s i : Nat) : Rat)))]) (st_if (tv_test (ev_eqI (ev_mod2 (ev_int1 (ev_shrN (ev_var rfl rfl) (ev_var rfl rfl))) ev_int) ev_int)) (fun z => ?_) fun z => ?_) ?_
      · rw [bit_dec] at z
        rw [if_pos (of_decide_eq_true z)]
        exact st_set (ev_call (av_cons ((ev_var rfl rfl)) (av_cons ((ev_call (av_cons ((ev_var rfl rfl)) (av_cons ((ev_var rfl rfl)) (av_cons ((ev_var rfl rfl)) av_nil))) (R_law_heard.mk N i s h.toWOk hi))) av_nil)) (R_law_minus.mk _ (heard N i s) ((L.m i).mul (two_bd o s i)).to (heard_bd h.toWOk i s).to))
      · rw [bit_dec] at z
        rw [if_neg (of_decide_eq_false z)]
        exact st_next
      · refine (st_set (ev_call (av_cons ((ev_var rfl rfl)) (av_cons ((ev_call (av_cons (ev_ixT (ev_var rfl rfl) (ev_var rfl rfl) (at_row hi)) (av_cons ((ev_var rfl rfl)) av_nil)) (R_law_times.mk (c i) _ (hc i).to (levP_bd L o s i).to))) av_nil)) (R_law_plus.mk (sm i f) _ (fb i (by omega)) ((hc i).mul (levP_bd L o s i)).to))).to (fun Γ e => ?_) fun _ z => z
        subst e
        rw [← fi]
        exact ⟨_, _, _, rfl⟩
    · rintro Γ ⟨s6, s7, s8, rfl⟩
      exact st_ret (ev_var rfl rfl) rfl
theorem gain_bd {N : Net} (h : LOk N) (s i : Nat) : Bd 108 80 (N.M i - heard N i s) := ((h.m i).sub (heard_bd h.toWOk i s)).to
theorem low_bd {N : Net} (h : LOk N) (s i : Nat) : Bd 156 127 (lowPart N s i) := by
  unfold lowPart
  split
  · exact ((gain_bd h s i).ite.add (h.m i)).to
  · exact (gain_bd h s i).ite.to
inductive R_law_least_level : List Kd → Kd → Prop
  | mk (N : Net) (c : Nat → Rat) (h : NetOk N) (hc : CBd c) : R_law_least_level [.im (netD N), .im (rowF N.n c), .ls (liftL N)] (.im (fr (leastE N c)))
/-- the least of the first k levels -/
def leastD (N : Net) (c : Nat → Rat) (k : Nat) : D := if k = 0 then .non else fr (leastT ((List.range (2 ^ N.n)).map fun s => nextE N c s) (k - 1))
theorem g_law_least_level (M : Mods K mg) (G_law_minus : PFn P w K mg base T "_law_minus" s_law_minus ["_law_x", "_law_y"] 2 R_law_minus) (G_law_heard : PFn P w K mg base T "_law_heard" s_law_heard ["_law_net", "_law_cell", "_law_number"] 3 R_law_heard) (G_law_plus : PFn P w K mg base T "_law_plus" s_law_plus ["_law_x", "_law_y"] 2 R_law_plus) (G_law_times : PFn P w K mg base T "_law_times" s_law_times ["_law_x", "_law_y"] 2 R_law_times) (G_law_below : PFn P w K mg base T "_law_below" s_law_below ["_law_x", "_law_y"] 1 R_law_below) : PFn P w K mg base T "_law_least_level" s_law_least_level ["_law_net", "_law_scales", "_law_lifted_here"] 4 R_law_least_level := by
  refine pf_of (T := T) M.f_law_least_level sc_law_least_level (fun ks k h => by cases h; rfl) (fun _ _ _ _ _ _ us hl => match us, hl with | [_, _, _], _ => rfl) fun f cdv A outer s H hr gd => ⟨_,
    (pss_cons (ps_set (i := 3) sc_law_least_level.nd rfl (.inl rfl) pe_non)
      (pss_cons (ps_for PassesOwn.never rfl (pi_range1 (by rfl) M.n_range (pa_cons (pe_op op_shl pe_int (pe_callB (lenK (K := K) rfl) (by rfl) M.n_len PySem.boot_len (pa_cons (pv 1) pa_nil))) pa_nil)) (pg_name (i := 4) sc_law_least_level.nd rfl (.inl rfl))
      (pss_cons (ps_set (i := 5) sc_law_least_level.nd rfl (.inl rfl) (pe_tup (pa_cons pe_int (pa_cons pe_int pa_nil))))
      (pss_cons (ps_for PassesOwn.never rfl (pi_range1 (by rfl) M.n_range (pa_cons (pe_callB (lenK (K := K) rfl) (by rfl) M.n_len PySem.boot_len (pa_cons (pv 1) pa_nil)) pa_nil)) (pg_name (i := 6) sc_law_least_level.nd rfl (.inl rfl))
      (pss_cons (ps_set (i := 7) sc_law_least_level.nd rfl (.inl rfl) (pe_gf G_law_minus hr (by decide) gd (by rfl) (pa_cons (pe_ix (ixT (K := K) rfl) (pe_ix (ixL (K := K) rfl) (pv 2) (pv 6) (fun _ _ => rfl)) pe_int (fun _ _ => rfl)) (pa_cons (pe_gf G_law_heard hr (by decide) gd (by rfl) (pa_cons (pv 0) (pa_cons (pv 6) (pa_cons (pv 4) pa_nil)))) pa_nil))))
      (pss_cons (ps_set (i := 8) sc_law_least_level.nd rfl (.inl rfl) (pe_ifExp (pt_cmpR op_lt (pe_ix (ixT (K := K) rfl) (pv 7) pe_int (fun _ _ => rfl)) pe_int (nomark _)) (pv 7) (pe_tup (pa_cons pe_int (pa_cons pe_int pa_nil)))))
      (pss_cons (ps_set (i := 8) sc_law_least_level.nd rfl (.inl rfl) (pe_ifExp (pt_cmpR op_eq (pe_op op_mod (pe_callTy c_int (by rfl) M.n_int PyProof.Rows.boot_int (pa_cons (pe_op op_shr (pv 4) (pv 6)) pa_nil)) pe_int) pe_int (nomark _)) (pe_gf G_law_plus hr (by decide) gd (by rfl) (pa_cons (pv 8) (pa_cons (pe_ix (ixT (K := K) rfl) (pe_ix (ixL (K := K) rfl) (pv 2) (pv 6) (fun _ _ => rfl)) pe_int (fun _ _ => rfl)) pa_nil))) (pv 8)))
      (pss_one (ps_set (i := 5) sc_law_least_level.nd rfl (.inl rfl) (pe_gf G_law_plus hr (by decide) gd (by rfl) (pa_cons (pv 5) (pa_cons (pe_gf G_law_times hr (by decide) gd (by rfl) (pa_cons (pe_ix (ixT (K := K) rfl) (pv 1) (pv 6) (fun _ _ => rfl)) (pa_cons (pv 8) pa_nil))) pa_nil)))))))))
      (pss_one (ps_set (i := 3) sc_law_least_level.nd rfl (.inl rfl) (pe_ifExp (PW.pt (pw_or (pt_cmpR op_isNo (pv 3) pe_non (nomark _)) (pw_or1 (pt_val (pe_gf G_law_below hr (by decide) gd (by rfl) (pa_cons (pv 5) (pa_cons (pv 3) pa_nil))))))) (pv 5) (pv 3)))))))
      (pss_one (ps_ret (pv 3))))), fun ks k h => ?_⟩
  cases h with
  | mk N c h hc =>
    have hl := h.le
    have hp := pow16 hl
    have L := lift_ok h
    have ln : ((List.range (2 ^ N.n)).map fun s => nextE N c s).length = 2 ^ N.n := by simp
    have lb : ∀ i, Small (leastT ((List.range (2 ^ N.n)).map fun s => nextE N c s) i) := fun i => by
      obtain ⟨j, _, e⟩ := List.mem_map.mp (leastT_mem (l := (List.range (2 ^ N.n)).map fun s => nextE N c s) (i := i) (by rw [ln]; exact Nat.two_pow_pos _))
      rw [← e]
      exact (nextE_bd h hc j).to
    refine st_seq (Γ1 := [.im (netD N), .im (rowF N.n c), .par (.ls (liftL N)), .im .non, .none, .none, .none, .none, .none]) (st_set ev_non) ?_
    refine st_seqP (N1 := fun Γ => ∃ s4 s5 s6 s7 s8, Γ = [.im (netD N), .im (rowF N.n c), .par (.ls (liftL N)), .im (leastD N c (2 ^ N.n)), s4, s5, s6, s7, s8]) (st_forP (n := 2 ^ N.n) (it_rngN (av_cons (ev_shl1 ev_int ((ev_lenT (ev_var rfl rfl)).as (k' := .im (.int ((N.n : Nat) : Int))) (by rw [row_len])) (by omega)) av_nil) (by omega)) (fun z => z) (fun i Γ => ∃ s4 s5 s6 s7 s8, Γ = [.im (netD N), .im (rowF N.n c), .par (.ls (liftL N)), .im (leastD N c i), s4, s5, s6, s7, s8]) ⟨_, _, _, _, _, rfl⟩ ?_ (fun Γ h => h)) ?_
    · rintro k Γ hk ⟨s4, s5, s6, s7, s8, rfl⟩
      have fb : ∀ i, i ≤ N.n → Small (sm i fun j => c j * lowPart (lift N) k j) := fun i hi => (Bd.sm4 (a := 160) (b := 131) (fun j _ => ((hc j).mul (low_bd L k j)).to) (by omega)).to
      refine st_seq (Γ1 := [.im (netD N), .im (rowF N.n c), .par (.ls (liftL N)), .im (leastD N c k), .im (.int ((k : Nat) : Int)), .im (fr (sm 0 fun j => c j * lowPart (lift N) k j)), s6, s7, s8]) (st_set (ev_lit (q := 0) ev_int ev_int rfl rfl)) ?_
      refine st_seqP (N1 := fun Γ => ∃ s6 s7 s8, Γ = [.im (netD N), .im (rowF N.n c), .par (.ls (liftL N)), .im (leastD N c k), .im (.int ((k : Nat) : Int)), .im (fr (nextE N c k)), s6, s7, s8]) (st_forP (n := N.n) (it_rngN (av_cons ((ev_lenT (ev_var rfl rfl)).as (k' := .im (.int ((N.n : Nat) : Int))) (by rw [row_len])) av_nil) (by omega)) (fun z => z) (fun i Γ => ∃ s6 s7 s8, Γ = [.im (netD N), .im (rowF N.n c), .par (.ls (liftL N)), .im (leastD N c k), .im (.int ((k : Nat) : Int)), .im (fr (sm i fun j => c j * lowPart (lift N) k j)), s6, s7, s8]) ⟨_, _, _, rfl⟩ ?_ ?_) ?_
      · rintro i Γ hi ⟨s6, s7, s8, rfl⟩
        refine st_seq (Γ1 := [.im (netD N), .im (rowF N.n c), .par (.ls (liftL N)), .im (leastD N c k), .im (.int ((k : Nat) : Int)), .im (fr (sm i fun j => c j * lowPart (lift N) k j)), .im (.int ((i : Nat) : Int)), .im (fr ((lift N).M i - heard (lift N) i k)), s8]) (st_set (ev_call (av_cons (ev_ixT (ev_ixL (ev_var rfl rfl) (ev_var rfl rfl) (ix_lift hi)) ev_int rfl) (av_cons ((ev_call (av_cons ((ev_var rfl rfl)) (av_cons ((ev_var rfl rfl)) (av_cons ((ev_var rfl rfl)) av_nil))) (R_law_heard.mk N i k h.toWOk hi))) av_nil)) (R_law_minus.mk ((lift N).M i) (heard N i k) (L.m i).to (heard_bd h.toWOk i k).to))) ?_
        refine st_seq (Γ1 := [.im (netD N), .im (rowF N.n c), .par (.ls (liftL N)), .im (leastD N c k), .im (.int ((k : Nat) : Int)), .im (fr (sm i fun j => c j * lowPart (lift N) k j)), .im (.int ((i : Nat) : Int)), .im (fr ((lift N).M i - heard (lift N) i k)), .im (fr (if (lift N).M i - heard (lift N) i k < 0 then (lift N).M i - heard (lift N) i k else 0))]) (st_set ((ev_ifD (tv_test (ev_opB0 (ev_ixT (ev_var rfl rfl) ev_int rfl) ev_int)) (fun _ => (ev_var rfl rfl)) (fun _ => ev_lit (q := 0) ev_int ev_int rfl rfl)).as (k' := .im (fr (if (lift N).M i - heard (lift N) i k < 0 then (lift N).M i - heard (lift N) i k else 0))) ?_)) ?_
        · have e1 := num_neg ((lift N).M i - heard (lift N) i k)
          show Kd.im (if decide (((lift N).M i - heard (lift N) i k).num < 0) = true then _ else _) = _
          rw [e1]
          by_cases z : (lift N).M i - heard (lift N) i k < 0
          · rw [if_pos (decide_eq_true z), if_pos z]
          · rw [if_neg (fun y => z (of_decide_eq_true y)), if_neg z]
        refine st_seq (Γ1 := [.im (netD N), .im (rowF N.n c), .par (.ls (liftL N)), .im (leastD N c k), .im (.int ((k : Nat) : Int)), .im (fr (sm i fun j => c j * lowPart (lift N) k j)), .im (.int ((i : Nat) : Int)), .im (fr ((lift N).M i - heard (lift N) i k)), .im (fr (lowPart (lift N) k i))]) (st_set ((ev_ifD (tv_test (ev_eqI (ev_mod2 (ev_int1 (ev_shrN (ev_var rfl rfl) (ev_var rfl rfl))) ev_int) ev_int)) (fun _ => (ev_call (av_cons ((ev_var rfl rfl)) (av_cons (ev_ixT (ev_ixL (ev_var rfl rfl) (ev_var rfl rfl) (ix_lift hi)) ev_int rfl) av_nil)) (R_law_plus.mk _ ((lift N).M i) (gain_bd L k i).ite.to (L.m i).to))) (fun _ => (ev_var rfl rfl))).as (k' := .im (fr (lowPart (lift N) k i))) ?_)) ?_
        · rw [bit_dec]
          unfold lowPart
          by_cases z : bit k i = 1
          · rw [if_pos (decide_eq_true z), if_pos z]
          · rw [if_neg (fun y => z (of_decide_eq_true y)), if_neg z]
        refine (st_set (ev_call (av_cons ((ev_var rfl rfl)) (av_cons ((ev_call (av_cons (ev_ixT (ev_var rfl rfl) (ev_var rfl rfl) (at_row hi)) (av_cons ((ev_var rfl rfl)) av_nil)) (R_law_times.mk (c i) _ (hc i).to (low_bd L k i).to))) av_nil)) (R_law_plus.mk (sm i fun j => c j * lowPart (lift N) k j) _ (fb i (by omega)) ((hc i).mul (low_bd L k i)).to))).to (fun Γ e => ?_) fun _ z => z
        subst e
        exact ⟨_, _, _, rfl⟩
      · rintro Γ ⟨s6, s7, s8, rfl⟩
        have e1 := lawLow_eq (N := N) (c := c) hk
        have e2 : (sm N.n fun j => c j * lowPart (lift N) k j) = nextE N c k := e1
        rw [e2]
        exact ⟨s6, s7, s8, rfl⟩
      · rintro Γ ⟨s6, s7, s8, rfl⟩
        have sE : Small (nextE N c k) := (nextE_bd h hc k).to
        have fin : ∀ Γ', Γ' = [.im (netD N), .im (rowF N.n c), .par (.ls (liftL N)), .im (leastD N c (k + 1)), .im (.int ((k : Nat) : Int)), .im (fr (nextE N c k)), s6, s7, s8] → ∃ s4 s5 s6 s7 s8, Γ' = [.im (netD N), .im (rowF N.n c), .par (.ls (liftL N)), .im (leastD N c (k + 1)), s4, s5, s6, s7, s8] := fun Γ' e => ⟨_, _, _, _, _, e⟩
        cases k with
        | zero =>
          have e1 : leastD N c 1 = fr (nextE N c 0) := by
            unfold leastD leastT
            rw [if_neg (by decide)]
            cases q : 2 ^ N.n with
            | zero => have := Nat.two_pow_pos N.n; omega
            | succ m => rw [List.range_succ_eq_map]; rfl
          refine (st_set (k := .im (fr (nextE N c 0))) (ev_if (b := true) (tv_or (b := true) (c := true) (tv_test (ev_isN (d := leastD N c 0) (ev_var rfl rfl))) fun z => nomatch z) (fun _ => (ev_var rfl rfl)) fun z => nomatch z)).to (fun Γ e => fin Γ ?_) fun _ z => z
          rw [e, e1]
          rfl
        | succ j =>
          have e1 : leastD N c (j + 1) = fr (leastT ((List.range (2 ^ N.n)).map fun s => nextE N c s) j) := by
            unfold leastD
            rw [if_neg (by omega)]
            rfl
          have e2 : leastD N c (j + 2) = fr (leastT ((List.range (2 ^ N.n)).map fun s => nextE N c s) (j + 1)) := by
            unfold leastD
            rw [if_neg (by omega)]
            rfl
          have e3 := leastT_succ (l := (List.range (2 ^ N.n)).map fun s => nextE N c s) (i := j) (by rw [ln]; exact hk)
          have e4 : ((List.range (2 ^ N.n)).map fun s => nextE N c s)[j + 1]'(by rw [ln]; exact hk) = nextE N c (j + 1) := by simp
          rw [e4] at e3
          refine (st_set (k := .im (leastD N c (j + 2))) (ev_if (b := decide (nextE N c (j + 1) < leastT ((List.range (2 ^ N.n)).map fun s => nextE N c s) j)) ((tv_or (b := false) (c := decide (nextE N c (j + 1) < leastT ((List.range (2 ^ N.n)).map fun s => nextE N c s) j)) (tv_test ((ev_isN (d := leastD N c (j + 1)) (ev_var rfl rfl)).as (by rw [e1]; rfl))) fun _ => tv_B (ev_call (av_cons ((ev_var rfl rfl)) (av_cons ((ev_var rfl rfl).as (by rw [e1])) av_nil)) (R_law_below.mk _ _ sE (lb j)))).as (Bool.false_or _)) (fun z => ?_) fun z => ?_)).to (fun Γ e => fin Γ ?_) fun _ z => z
          · rw [if_pos (of_decide_eq_true z)] at e3
            refine Ev.as (ev_var rfl rfl) ?_
            rw [e2, e3]
          · rw [if_neg (of_decide_eq_false z)] at e3
            refine Ev.as (ev_var rfl rfl) ?_
            rw [e2, e3, e1]
          · rw [e]
            rfl
    · rintro Γ ⟨s4, s5, s6, s7, s8, rfl⟩
      refine st_ret (ev_var rfl rfl) ?_
      have := Nat.two_pow_pos N.n
      unfold leastD leastT leastE
      rw [if_neg (by omega), List.take_of_length_le (by rw [ln]; omega)]
      rfl
inductive R_law_falls : List Kd → Kd → Prop
  | mk (N : Net) (c : Nat → Rat) (h : NetOk N) (hc : CBd c) (hb : Bal N c) (hp : ∀ i, 0 < c i) : R_law_falls [.im (netD N), .im (rowF N.n c), .ls (liftL N), .ls (stepsL N)] (.im (.bl true))
theorem ix_steps {N : Net} {i : Nat} (h : i < 2 ^ N.n) : atI (stepsL N) ((i : Nat) : Int) = some (.int ((next N i : Nat) : Int)) := at_row h
theorem g_law_falls (M : Mods K mg) (G_law_drop : PFn P w K mg base T "_law_drop" s_law_drop ["_law_scales", "_law_lifted_here"] 3 R_law_drop) (G_law_level : PFn P w K mg base T "_law_level" s_law_level ["_law_net", "_law_scales", "_law_lifted_here", "_law_one_here", "_law_two"] 4 R_law_level) (G_law_below : PFn P w K mg base T "_law_below" s_law_below ["_law_x", "_law_y"] 1 R_law_below) (G_law_minus : PFn P w K mg base T "_law_minus" s_law_minus ["_law_x", "_law_y"] 2 R_law_minus) : PFn P w K mg base T "_law_falls" s_law_falls ["_law_net", "_law_scales", "_law_lifted_here", "_law_steps"] 5 R_law_falls := by
  refine pf_of (T := T) M.f_law_falls sc_law_falls (fun ks k h => by cases h; rfl) (fun _ _ _ _ _ _ us hl => match us, hl with | [_, _, _, _], _ => rfl) fun f cdv A outer s H hr gd => ⟨_,
    (pss_cons (ps_set (i := 4) sc_law_falls.nd rfl (.inl rfl) (pe_gf G_law_drop hr (by decide) gd (by rfl) (pa_cons (pv 1) (pa_cons (pv 2) pa_nil))))
      (pss_cons (ps_for PassesOwn.never rfl (pi_range1 (by rfl) M.n_range (pa_cons (pe_callB (lenK (K := K) rfl) (by rfl) M.n_len PySem.boot_len (pa_cons (pv 3) pa_nil)) pa_nil)) (pg_name (i := 5) sc_law_falls.nd rfl (.inl rfl))
      (pss_cons (ps_set (i := 6) sc_law_falls.nd rfl (.inl rfl) (pe_ix (ixL (K := K) rfl) (pv 3) (pv 5) (fun _ _ => rfl)))
      (pss_cons (ps_set (i := 7) sc_law_falls.nd rfl (.inl rfl) (pe_ix (ixL (K := K) rfl) (pv 3) (pv 6) (fun _ _ => rfl)))
      (pss_one (ps_if (pt_cmpR op_ne (pv 7) (pv 5) (nomark _)) (pss_cons (ps_set (i := 8) sc_law_falls.nd rfl (.inl rfl) (pe_gf G_law_level hr (by decide) gd (by rfl) (pa_cons (pv 0) (pa_cons (pv 1) (pa_cons (pv 2) (pa_cons (pv 6) (pa_cons (pv 5) pa_nil)))))))
      (pss_one (ps_if (pt_val (pe_gf G_law_below hr (by decide) gd (by rfl) (pa_cons (pe_gf G_law_minus hr (by decide) gd (by rfl) (pa_cons (pv 8) (pa_cons (pe_gf G_law_level hr (by decide) gd (by rfl) (pa_cons (pv 0) (pa_cons (pv 1) (pa_cons (pv 2) (pa_cons (pv 7) (pa_cons (pv 6) pa_nil)))))) pa_nil))) (pa_cons (pv 4) pa_nil)))) (pss_one (ps_ret pe_bl)) pss_nil))) pss_nil)))))
      (pss_one (ps_ret pe_bl)))), fun ks k h => ?_⟩
  cases h with
  | mk N c h hc hb hp =>
    have hl := h.le
    have h16 := pow16 hl
    have L := lift_ok h
    refine st_seq (Γ1 := [.im (netD N), .im (rowF N.n c), .par (.ls (liftL N)), .par (.ls (stepsL N)), .im (fr (dropR N c)), .none, .none, .none, .none]) (st_set (ev_call (av_cons ((ev_var rfl rfl)) (av_cons ((ev_var rfl rfl)) av_nil)) (R_law_drop.mk N c h hc))) ?_
    refine st_seqP (N1 := fun Γ => True) (st_forP (n := 2 ^ N.n) (it_rngN (av_cons ((ev_lenL (ev_var rfl rfl)).as (k' := .im (.int ((2 ^ N.n : Nat) : Int))) (by rw [len_row])) av_nil) (by omega)) (fun z => z) (fun i Γ => ∃ s5 s6 s7 s8, Γ = [.im (netD N), .im (rowF N.n c), .par (.ls (liftL N)), .par (.ls (stepsL N)), .im (fr (dropR N c)), s5, s6, s7, s8]) ⟨_, _, _, _, rfl⟩ ?_ (fun Γ h => trivial)) ?_
    · rintro i Γ hi ⟨s5, s6, s7, s8, rfl⟩
      have h1 := next_lt N i
      refine st_seq (Γ1 := [.im (netD N), .im (rowF N.n c), .par (.ls (liftL N)), .par (.ls (stepsL N)), .im (fr (dropR N c)), .im (.int ((i : Nat) : Int)), .im (.int ((next N i : Nat) : Int)), s7, s8]) (st_set (ev_ixL (ev_var rfl rfl) (ev_var rfl rfl) (ix_steps hi))) ?_
      refine st_seq (Γ1 := [.im (netD N), .im (rowF N.n c), .par (.ls (liftL N)), .par (.ls (stepsL N)), .im (fr (dropR N c)), .im (.int ((i : Nat) : Int)), .im (.int ((next N i : Nat) : Int)), .im (.int ((next N (next N i) : Nat) : Int)), s8]) (st_set (ev_ixL (ev_var rfl rfl) (ev_var rfl rfl) (ix_steps h1))) ?_
      refine st_if (tv_test (ev_neI (ev_var rfl rfl) (ev_var rfl rfl))) (fun z => ?_) fun z => st_next.to (fun Γ e => ⟨_, _, _, _, e⟩) fun _ z => z
      have hne : next N (next N i) ≠ i := fun y => by
        rw [y, decide_eq_true rfl] at z
        cases z
      refine st_seq (Γ1 := [.im (netD N), .im (rowF N.n c), .par (.ls (liftL N)), .par (.ls (stepsL N)), .im (fr (dropR N c)), .im (.int ((i : Nat) : Int)), .im (.int ((next N i : Nat) : Int)), .im (.int ((next N (next N i) : Nat) : Int)), .im (fr (HnQ.level (lift N) c (next N i) i))]) (st_set (ev_call (av_cons ((ev_var rfl rfl)) (av_cons ((ev_var rfl rfl)) (av_cons ((ev_var rfl rfl)) (av_cons ((ev_var rfl rfl)) (av_cons ((ev_var rfl rfl)) av_nil))))) (R_law_level.mk N c (next N i) i h hc))) ?_
      refine st_no ((tv_B (ev_call (av_cons ((ev_call (av_cons ((ev_var rfl rfl)) (av_cons ((ev_call (av_cons ((ev_var rfl rfl)) (av_cons ((ev_var rfl rfl)) (av_cons ((ev_var rfl rfl)) (av_cons ((ev_var rfl rfl)) (av_cons ((ev_var rfl rfl)) av_nil))))) (R_law_level.mk N c (next N (next N i)) (next N i) h hc))) av_nil)) (R_law_minus.mk _ _ (level_bd L hc _ _).to (level_bd L hc _ _).to))) (av_cons ((ev_var rfl rfl)) av_nil)) (R_law_below.mk _ _ ((level_bd L hc _ _).sub (level_bd L hc _ _)).to (dropR_bd h hc).to))).as ?_) (st_next.to (fun Γ e => ⟨_, _, _, _, e⟩) fun _ z => z)
      exact decide_eq_false (Rat.not_lt.mpr (falls hb hp hi hne))
    · rintro Γ -
      exact st_ret ev_bl rfl
end
end Hn
end

section
set_option Elab.async false
set_option linter.all false
set_option maxRecDepth 100000
set_option maxHeartbeats 1000000
namespace Hn
open PySem PySem.Spec PyProof.Rows L2 NdefX LamX HnQ
section
variable {P : Program} {w : World} {K : PySem.W.Frag} {mg : Str → Option Value} {base : Heap} {T : List NTab}
def scV (s : Nat → Rat) (i : Nat) : Option Nat → D
  | none => .non
  | some r => fr (s i / s r)
abbrev scL (n : Nat) (s : Nat → Rat) (rs : Rs) : List D := (List.range n).map fun i => scV s i (rs i)
theorem row_set {n k : Nat} {f g : Nat → D} {d : D} (h1 : ∀ i, i < n → i ≠ k → f i = g i) (h2 : k < n → g k = d) : ((List.range n).map f).set k d = (List.range n).map g := by
  refine List.ext_getElem (by simp) fun i h3 h4 => ?_
  have hi : i < n := by simpa using h4
  rw [List.getElem_set]
  by_cases e : k = i
  · subst e
    rw [if_pos rfl]
    simp [h2 hi]
  · rw [if_neg e]
    simp [h1 i hi (fun z => e z.symm)]
theorem scL_put {n k r : Nat} {s : Nat → Rat} {rs : Rs} : (scL n s rs).set k (fr (s k / s r)) = scL n s (putR rs k r) := by
  refine row_set (fun i _ hne => ?_) fun _ => ?_
  · unfold putR
    rw [if_neg hne]
  · unfold putR
    rw [if_pos rfl]
    rfl
theorem scL_same {n k : Nat} {s : Nat → Rat} {rs : Rs} : (scL n s rs).set k (scV s k (rs k)) = scL n s rs := row_set (fun _ _ _ => rfl) fun _ => rfl
def Slot.noL : Slot → Bool
  | .ls _ => false
  | _ => true
theorem scrub_eq {Γ : List Slot} (h : Γ.all Slot.noL = true) : scrub Γ = Γ := by
  induction Γ with
  | nil => rfl
  | cons s Γ ih =>
    rw [List.all_cons, Bool.and_eq_true] at h
    have e2 := ih h.2
    cases s with
    | ls ds => exact Bool.noConfusion (show false = true from h.1)
    | _ =>
      show _ :: scrub Γ = _
      rw [e2]
structure TL (N : Net) (s : Nat → Rat) : Prop where
  rat : Rat2 N s
  w : WOk N
  pos : ∀ i j, i < N.n → j < N.n → N.W i j ≠ 0 → 0 < N.W i j * N.W j i
theorem tied_eq {N : Net} {s : Nat → Rat} (h : Rat2 N s) {a k r : Nat} (ha : a < N.n) (hk : k < N.n) (hz : N.W a k ≠ 0) : s a / s r * N.W a k / N.W k a = s k / s r := by
  have q := h.told a k ha hk hz
  have n1 := h.nz a
  rw [Rat.div_def] at q
  rw [Rat.div_def (s a / s r * N.W a k), Rat.mul_assoc, q, Rat.div_def, Rat.div_def, Rat.div_def, show s a * (s r)⁻¹ * (s k * (s a)⁻¹) = (s a * (s a)⁻¹) * (s k * (s r)⁻¹) by grind, Rat.mul_inv_cancel _ n1, Rat.one_mul]
inductive R_law_told_scales : List Kd → Kd → Prop
  | mk (N : Net) (s : Nat → Rat) (rs : Rs) (h : TL N s) (hr : tStart N.n (adjN N) N.n = some rs) (ha : ∀ i, i < N.n → (rs i).isSome = true) : R_law_told_scales [.im (netD N)] (.im (rowF N.n fun i => s i / s ((rs i).getD 0)))
theorem g_law_told_scales (M : Mods K mg) (G_law_tied : PFn P w K mg base T "_law_tied" s_law_tied ["_law_net", "_law_scales", "_law_at", "_law_to"] 3 R_law_tied) : PFn P w K mg base T "_law_told_scales" s_law_told_scales ["_law_net"] 4 R_law_told_scales := by
  refine pf_of (T := T) M.f_law_told_scales sc_law_told_scales (fun ks k h => by cases h; rfl) (fun _ _ _ _ _ _ us hl => match us, hl with | [_], _ => rfl) fun f cdv A outer s H hr gd => ⟨_,
    (pss_cons (ps_par (i := 1) (j := 2) rfl sc_law_told_scales.nd rfl rfl (by decide) rfl rfl (pa_cons (pe_callB (lenK (K := K) rfl) (by rfl) M.n_len PySem.boot_len (pa_cons (pe_ix (ixT (K := K) rfl) (pv 0) pe_int (fun _ _ => rfl)) pa_nil)) (pa_cons (pe_op op_rep (pe_lst (pa_cons pe_non pa_nil)) (pe_callB (lenK (K := K) rfl) (by rfl) M.n_len PySem.boot_len (pa_cons (pe_ix (ixT (K := K) rfl) (pv 0) pe_int (fun _ _ => rfl)) pa_nil))) pa_nil)) (by rfl))
      (pss_cons (ps_for PassesOwn.never rfl (pi_range1 (by rfl) M.n_range (pa_cons (pv 1) pa_nil)) (pg_name (i := 3) sc_law_told_scales.nd rfl (.inl rfl))
      (pss_cons (ps_set (i := 4) sc_law_told_scales.nd rfl (.inl rfl) (pe_ifExp (pt_cmpR op_isNo (pe_ix (ixL (K := K) rfl) (pv 2) (pv 3) (fun _ _ => rfl)) pe_non (nomark _)) (pe_lst (pa_cons (pv 3) pa_nil)) (pe_lst pa_nil)))
      (pss_cons (ps_asg (pe_ifExp (pt_cmpR op_isNo (pe_ix (ixL (K := K) rfl) (pv 2) (pv 3) (fun _ _ => rfl)) pe_non (nomark _)) (pe_tup (pa_cons pe_int (pa_cons pe_int pa_nil))) (pe_ix (ixL (K := K) rfl) (pv 2) (pv 3) (fun _ _ => rfl))) (pg_sub (pv 2) (pv 3) set_list))
      (pss_one (ps_for PassesOwn.never rfl (pi_range1 (by rfl) M.n_range (pa_cons (pv 1) pa_nil)) (pg_name (i := 5) sc_law_told_scales.nd rfl (.inl rfl))
      (pss_one (ps_for PassesOwn.never rfl (pi_range1 (by rfl) M.n_range (pa_cons (pe_ifExp (pt_cmpR op_lt (pv 5) (pe_callB (lenK (K := K) rfl) (by rfl) M.n_len PySem.boot_len (pa_cons (pv 4) pa_nil)) (nomark _)) (pv 1) pe_int) pa_nil)) (pg_name (i := 6) sc_law_told_scales.nd rfl (.inl rfl))
      (pss_cons (ps_set (i := 7) sc_law_told_scales.nd rfl (.inl rfl) (pe_ix (ixL (K := K) rfl) (pv 4) (pv 5) (fun _ _ => rfl)))
      (pss_one (ps_if (PW.pt (pw_or (pt_cmpR (neDK (K := K) rfl hr.units) (pe_ix (ixT (K := K) rfl) (pe_ix (ixT (K := K) rfl) (pe_ix (ixT (K := K) rfl) (pv 0) pe_int (fun _ _ => rfl)) (pv 7) (fun _ _ => rfl)) (pv 6) (fun _ _ => rfl)) (pe_tup (pa_cons pe_int (pa_cons pe_int pa_nil))) (nomark _)) (pw_or1 (pt_cmpR (neDK (K := K) rfl hr.units) (pe_ix (ixT (K := K) rfl) (pe_ix (ixT (K := K) rfl) (pe_ix (ixT (K := K) rfl) (pv 0) pe_int (fun _ _ => rfl)) (pv 6) (fun _ _ => rfl)) (pv 7) (fun _ _ => rfl)) (pe_tup (pa_cons pe_int (pa_cons pe_int pa_nil))) (nomark _))))) (pss_cons (ps_set (i := 8) sc_law_told_scales.nd rfl (.inl rfl) (pe_gf G_law_tied hr (by decide) gd (by rfl) (pa_cons (pv 0) (pa_cons (pv 2) (pa_cons (pv 7) (pa_cons (pv 6) pa_nil))))))
      (pss_cons (ps_if (PW.pt (pw_or (pt_cmpR (eqDK (K := K) rfl hr.units) (pv 8) (pe_lst pa_nil) (nomark _)) (pw_or1 (PW.pt (pw_and (pt_cmpR op_noNo (pe_ix (ixL (K := K) rfl) (pv 2) (pv 6) (fun _ _ => rfl)) pe_non (nomark _)) (pw_and1 (pt_cmpR (neDK (K := K) rfl hr.units) (pe_ix (ixL (K := K) rfl) (pv 2) (pv 6) (fun _ _ => rfl)) (pe_ix (ixL (K := K) rfl) (pv 8) pe_int (fun _ _ => rfl)) (nomark _)))))))) (pss_one (ps_ret (pe_tup pa_nil))) pss_nil)
      (pss_one (ps_if (pt_cmpR op_isNo (pe_ix (ixL (K := K) rfl) (pv 2) (pv 6) (fun _ _ => rfl)) pe_non (nomark _)) (pss_cons (ps_expr (pe_bm PySem.F.plainAttrs_list PySem.F.slot_list_append PySem.F.type_list_append mt_append (pv 4) (pa_cons (pv 6) pa_nil)))
      (pss_one (ps_asg (pe_ix (ixL (K := K) rfl) (pv 8) pe_int (fun _ _ => rfl)) (pg_sub (pv 2) (pv 6) set_list)))) pss_nil)))) pss_nil))))))))))
      (pss_one (ps_ret (pe_callTy (tupK (K := K) rfl) (by rfl) M.n_tuple PyProof.Rows.boot_tuple (pa_cons (pv 2) pa_nil)))))), fun ks k h => ?_⟩
  cases h with
  | mk N s rs hT hrs hall =>
    have hl := hT.w.le
    have nz : ∀ p : Rat, (!decide (p = 0)) = decide (p ≠ 0) := fun p => by by_cases h : p = 0 <;> simp [h]
    refine st_seq (Γ1 := [.im (netD N), .im (.int ((N.n : Nat) : Int)), .own (scL N.n s fun _ => none), .none, .none, .none, .none, .none, .none]) ((st_parF ((ev_lenT (ev_ixT (ev_var rfl rfl) ev_int rfl)).as (k' := .im (.int ((N.n : Nat) : Int))) (by rw [row_len])) (ev_rep (n := N.n) (ev_lst (ds := [.non]) (av_cons (ev_non) av_nil)) ((ev_lenT (ev_ixT (ev_var rfl rfl) ev_int rfl)).as (by rw [row_len])) (by omega))).to (fun Γ e => e.trans ?_) fun _ z => z) ?_
    · have e1 : List.replicate N.n D.non = scL N.n s fun _ => none := by
        refine List.ext_getElem (by simp) fun i h1 h2 => ?_
        simp [scV]
      rw [e1]
      rfl
    refine st_seqP (N1 := fun Γ => ∃ s3 s4 s5 s6 s7 s8, Γ = [.im (netD N), .im (.int ((N.n : Nat) : Int)), .own (scL N.n s rs), s3, s4, s5, s6, s7, s8]) (st_forP (n := N.n) (it_rngN (av_cons ((ev_var rfl rfl)) av_nil) (by omega)) (fun z => z)
      (fun i Γ => ∃ rs s3 s4 s5 s6 s7 s8, Γ = [.im (netD N), .im (.int ((N.n : Nat) : Int)), .own (scL N.n s rs), s3, s4, s5, s6, s7, s8] ∧ tStart N.n (adjN N) i = some rs ∧ [s5, s6, s7, s8].all Slot.noL = true) ⟨_, _, _, _, _, _, _, rfl, rfl, rfl⟩ ?_ ?_) ?_
    · rintro i Γ hi ⟨ri, s3, s4, s5, s6, s7, s8, rfl, hi2, hno⟩
      obtain ⟨rn, hn1⟩ := tStart_some hrs (show i + 1 ≤ N.n by omega)
      obtain ⟨st9, ht9, e9⟩ : ∃ st9, tTurn N.n (adjN N) N.n (startSt ri i) = some st9 ∧ st9.1 = rn := by
        unfold tStart at hn1
        rw [hi2] at hn1
        exact Option.map_eq_some_iff.mp hn1
      have hixs : atI (scL N.n s ri) ((i : Nat) : Int) = some (scV s i (ri i)) := at_row hi
      refine st_seqP (N1 := fun Γ => Γ = [.im (netD N), .im (.int ((N.n : Nat) : Int)), .own (scL N.n s ri), .im (.int ((i : Nat) : Int)), .own (intsD (startSt ri i).2), s5, s6, s7, s8]) ?_ ?_
      · unfold startSt
        cases q : ri i with
        | none => exact st_set (k := .fl (intsD [i])) (ev_if (b := true) (tv_test (ev_isN (ev_ixL (ev_var rfl rfl) (ev_var rfl rfl) (hixs.trans (by rw [q]; rfl : _ = some D.non))))) (fun _ => ev_lst (ds := [_]) (av_cons ((ev_var rfl rfl)) av_nil)) fun z => nomatch z)
        | some r => exact st_set (k := .fl (intsD [])) (ev_if (b := false) (tv_test (ev_isN (ev_ixL (ev_var rfl rfl) (ev_var rfl rfl) (hixs.trans (by rw [q]; rfl : _ = some (fr (s i / s r))))))) (fun z => nomatch z) fun _ => ev_lst (ds := []) av_nil)
      rintro Γ rfl
      refine st_seqP (N1 := fun Γ => Γ = [.im (netD N), .im (.int ((N.n : Nat) : Int)), .own (scL N.n s (startSt ri i).1), .im (.int ((i : Nat) : Int)), .own (intsD (startSt ri i).2), s5, s6, s7, s8]) ?_ ?_
      · have sc0 : scrub [.im (netD N), .im (.int ((N.n : Nat) : Int)), .own (scL N.n s ri), .im (.int ((i : Nat) : Int)), .own (intsD (startSt ri i).2), s5, s6, s7, s8] = [.im (netD N), .im (.int ((N.n : Nat) : Int)), .own (scL N.n s ri), .im (.int ((i : Nat) : Int)), .own (intsD (startSt ri i).2), s5, s6, s7, s8] := scrub_eq (by
          show (true && (true && (true && (true && (true && [s5, s6, s7, s8].all Slot.noL))))) = true
          rw [hno]
          rfl)
        have hlt : i < (scL N.n s ri).length := by rw [List.length_map, List.length_range]; exact hi
        refine (st_put (i := 2) (j := i) (d := scV s i ((startSt ri i).1 i)) rfl ?_ (ev_var rfl rfl) hlt).to (fun Γ e => ?_) fun _ z => z
        · unfold startSt
          cases q : ri i with
          | none =>
            refine ev_if (b := true) (tv_test (ev_isN (ev_ixL (ev_var rfl rfl) (ev_var rfl rfl) (hixs.trans (by rw [q]; rfl : _ = some D.non))))) (fun _ => Ev.as (ev_lit (q := 1) ev_int ev_int rfl rfl) ?_) fun z => nomatch z
            show Kd.im (fr 1) = .im (scV s i (putR ri i i i))
            unfold putR
            rw [if_pos rfl]
            show _ = Kd.im (fr (s i / s i))
            rw [Rat.div_def, Rat.mul_inv_cancel _ (hT.rat.nz i)]
          | some r =>
            refine ev_if (b := false) (tv_test (ev_isN (ev_ixL (ev_var rfl rfl) (ev_var rfl rfl) (hixs.trans (by rw [q]; rfl : _ = some (fr (s i / s r))))))) (fun z => nomatch z) fun _ => Ev.as (ev_ixL (ev_var rfl rfl) (ev_var rfl rfl) hixs) ?_
            rw [q]
            show _ = Kd.im (scV s i (ri i))
            rw [q]
        · rw [e, sc0]
          have e5 : (scL N.n s ri).set i (scV s i ((startSt ri i).1 i)) = scL N.n s (startSt ri i).1 := by
            unfold startSt
            cases q : ri i with
            | none =>
              show (scL N.n s ri).set i (scV s i (putR ri i i i)) = scL N.n s (putR ri i i)
              have : scV s i (putR ri i i i) = fr (s i / s i) := by
                unfold putR
                rw [if_pos rfl]
                rfl
              rw [this]
              exact scL_put
            | some r => exact scL_same
          rw [e5]
          rfl
      rintro Γ rfl
      have bst : (startSt ri i).2.length ≤ 1 ∧ ∀ x ∈ (startSt ri i).2, x < N.n := by
        unfold startSt
        cases q : ri i with
        | none => exact ⟨Nat.le_refl _, fun x hx => by rw [List.mem_singleton.mp hx]; exact hi⟩
        | some r => exact ⟨Nat.zero_le _, fun x hx => by cases hx⟩
      generalize startSt ri i = st0 at *
      refine (st_forP (n := N.n) (it_rngN (av_cons ((ev_var rfl rfl)) av_nil) (by omega)) (fun z => z) (fun t Γ => ∃ st s5 s6 s7 s8, Γ = [.im (netD N), .im (.int ((N.n : Nat) : Int)), .own (scL N.n s st.1), .im (.int ((i : Nat) : Int)), .own (intsD st.2), s5, s6, s7, s8] ∧ tTurn N.n (adjN N) t st0 = some st ∧ st.2.length ≤ 1 + 4 * t ∧ (∀ x ∈ st.2, x < N.n) ∧ [s5, s6, s7, s8].all Slot.noL = true) ⟨st0, _, _, _, _, rfl, rfl, bst.1, bst.2, hno⟩ ?_ (fun Γ h => h)).to (fun Γ e => ?_) fun _ z => z
      · rintro t Γ ht ⟨st, s5, s6, s7, s8, rfl, htt, hlen, hmem, hno⟩
        obtain ⟨st1, ht1⟩ := tTurn_some ht9 (show t + 1 ≤ N.n by omega)
        have ht2 : (if t < st.2.length then tTo (adjN N) (st.2.getD t 0) N.n st else some st) = some st1 := by
          unfold tTurn at ht1
          rw [htt] at ht1
          exact ht1
        have tst : Tv K T none (tTest (tOp (rI0 fun i j => .bl (decide (i < j))) (tVar 5) (tCB (rLenA K) (tCons (tVar 4) tNil)))) [.im (netD N), .im (.int ((N.n : Nat) : Int)), .own (scL N.n s st.1), .im (.int ((i : Nat) : Int)), .own (intsD st.2), .im (.int ((t : Nat) : Int)), s6, s7, s8] (decide (t < st.2.length)) := (tv_test (ev_opB0 (ev_var rfl rfl) (ev_lenL (ev_var rfl rfl)))).as (by
          rw [List.length_map, decide_eq_decide]
          omega)
        by_cases hc : t < st.2.length
        · rw [if_pos hc] at ht2
          have rng : Ev K T none (tIf (tTest (tOp (rI0 fun i j => .bl (decide (i < j))) (tVar 5) (tCB (rLenA K) (tCons (tVar 4) tNil)))) (tVar 1) (tC (.int 0))) [.im (netD N), .im (.int ((N.n : Nat) : Int)), .own (scL N.n s st.1), .im (.int ((i : Nat) : Int)), .own (intsD st.2), .im (.int ((t : Nat) : Int)), s6, s7, s8] (.im (.int ((N.n : Nat) : Int))) := (ev_ifD tst (fun _ => (ev_var rfl rfl)) fun _ => ev_int).as (by
            rw [decide_eq_true hc]
            rfl)
          have hat : ∀ ext, (intsD (st.2 ++ ext))[t]? = some (.int ((st.2.getD t 0 : Nat) : Int)) := fun ext => by
            rw [List.getElem?_map, List.getElem?_append_left hc, List.getD_eq_getElem?_getD, List.getElem?_eq_getElem hc]
            rfl
          have ha : st.2.getD t 0 < N.n := hmem _ (by
            rw [List.getD_eq_getElem?_getD, List.getElem?_eq_getElem hc]
            exact List.getElem_mem hc)
          generalize st.2.getD t 0 = a at *
          have hno3 : [s6, s7, s8].all Slot.noL = true := (Bool.and_eq_true_iff.mp hno).2
          refine (st_forP (n := N.n) (it_rngN (av_cons (rng) av_nil) (by omega)) (fun z => z) (fun k Γ => ∃ st2 s6 s7 s8 ext, Γ = [.im (netD N), .im (.int ((N.n : Nat) : Int)), .own (scL N.n s st2.1), .im (.int ((i : Nat) : Int)), .own (intsD st2.2), .im (.int ((t : Nat) : Int)), s6, s7, s8] ∧ tTo (adjN N) a k st = some st2 ∧ st2.2 = st.2 ++ ext ∧ ext.length ≤ k ∧ (∀ x ∈ st2.2, x < N.n) ∧ [s6, s7, s8].all Slot.noL = true) ⟨st, _, _, _, [], rfl, rfl, (List.append_nil _).symm, Nat.le_refl _, hmem, hno3⟩ ?_ (fun Γ h => h)).to (fun Γ e => ?_) fun _ z => z
          · rintro k Γ hk ⟨st2, s6, s7, s8, ext, rfl, hto, hext, hel, hmem2, hno2⟩
            obtain ⟨st3, ht3⟩ := tTo_some ht2 (show k + 1 ≤ N.n by omega)
            have hst : toStep (adjN N) a k st2 = some st3 := by
              unfold tTo at ht3
              rw [hto] at ht3
              exact ht3
            have hs8 : s8.noL = true := by
              have := (Bool.and_eq_true_iff.mp (Bool.and_eq_true_iff.mp hno2).2).2
              exact (Bool.and_eq_true_iff.mp this).1
            have len2 : st2.2.length ≤ 1 + 4 * t + k := by rw [hext, List.length_append]; omega
            have aix : atI (intsD st2.2) ((t : Nat) : Int) = some (.int ((a : Nat) : Int)) := atI_nat (by rw [hext]; exact hat ext)
            refine st_seq (Γ1 := [.im (netD N), .im (.int ((N.n : Nat) : Int)), .own (scL N.n s st2.1), .im (.int ((i : Nat) : Int)), .own (intsD st2.2), .im (.int ((t : Nat) : Int)), .im (.int ((k : Nat) : Int)), .im (.int ((a : Nat) : Int)), s8]) (st_set (ev_ixL (ev_var rfl rfl) (ev_var rfl rfl) aix)) ?_
            refine st_if ((tv_or (tv_test (ev_neF (ev_ixT (ev_ixT (ev_ixT (ev_var rfl rfl) ev_int rfl) (ev_var rfl rfl) (at_row ha)) (ev_var rfl rfl) (at_row hk)) (ev_lit (q := 0) ev_int ev_int rfl rfl))) fun _ => tv_test (ev_neF (ev_ixT (ev_ixT (ev_ixT (ev_var rfl rfl) ev_int rfl) (ev_var rfl rfl) (at_row hk)) (ev_var rfl rfl) (at_row ha)) (ev_lit (q := 0) ev_int ev_int rfl rfl))).as (c := adjN N a k || adjN N k a) (by rw [nz, nz]; rfl)) (fun z => ?_) fun z => ?_
            · have hz : N.W a k ≠ 0 := by
                rcases Bool.or_eq_true_iff.mp z with z | z
                · exact of_decide_eq_true z
                · exact hT.rat.sym _ _ hk ha (of_decide_eq_true z)
              unfold toStep at hst
              rw [if_pos z] at hst
              cases qa : st2.1 a with
              | none => rw [qa] at hst; cases hst
              | some r =>
                rw [qa] at hst
                have hx : (scL N.n s st2.1)[a]? = some (fr (s a / s r)) := by
                  rw [get_row' ha, qa]
                  rfl
                refine st_seq (Γ1 := [.im (netD N), .im (.int ((N.n : Nat) : Int)), .own (scL N.n s st2.1), .im (.int ((i : Nat) : Int)), .own (intsD st2.2), .im (.int ((t : Nat) : Int)), .im (.int ((k : Nat) : Int)), .im (.int ((a : Nat) : Int)), .own [fr (s k / s r)]]) (st_set (Ev.as (ev_call (av_cons ((ev_var rfl rfl)) (av_cons ((ev_var rfl rfl)) (av_cons ((ev_var rfl rfl)) (av_cons ((ev_var rfl rfl)) av_nil)))) (R_law_tied.mk N (scL N.n s st2.1) a k (s a / s r) hT.w ha hk hx (s_rat hT.rat a r) (hT.pos _ _ ha hk hz))) (k' := .fl [fr (s k / s r)]) (by rw [tied_eq hT.rat ha hk hz]))) ?_
                have hcm : ∀ d ∈ [fr (s k / s r)], d.cmp := fun d hd => by
                  rw [List.mem_singleton.mp hd]
                  exact cmp_fr (s k / s r)
                have asked0 : atI [fr (s k / s r)] 0 = some (fr (s k / s r)) := atI_nat (j := 0) rfl
                have sck : atI (scL N.n s st2.1) ((k : Nat) : Int) = some (scV s k (st2.1 k)) := at_row hk
                cases qk : st2.1 k with
                | none =>
                  rw [qk] at hst
                  have hst : some (putR st2.1 k r, st2.2 ++ [k]) = some st3 := hst
                  cases hst
                  rw [qk] at sck
                  refine st_seq (Γ1 := [.im (netD N), .im (.int ((N.n : Nat) : Int)), .own (scL N.n s st2.1), .im (.int ((i : Nat) : Int)), .own (intsD st2.2), .im (.int ((t : Nat) : Int)), .im (.int ((k : Nat) : Int)), .im (.int ((a : Nat) : Int)), .own [fr (s k / s r)]]) (st_no ((tv_or (b := false) (c := false) (tv_test (ev_eqNil (ev_var rfl rfl) (ev_ls (ev_lst (ds := []) av_nil)) hcm)) fun _ => (tv_and (b := false) (c := false) (tv_test (ev_notN (d := .non) (ev_ixL (ev_var rfl rfl) (ev_var rfl rfl) sck))) fun z => nomatch z)).as rfl) st_next) ?_
                  refine st_yes (tv_test (ev_isN (d := .non) (ev_ixL (ev_var rfl rfl) (ev_var rfl rfl) sck))) ?_
                  refine st_seq (Γ1 := [.im (netD N), .im (.int ((N.n : Nat) : Int)), .own (scL N.n s st2.1), .im (.int ((i : Nat) : Int)), .own (intsD (st2.2 ++ [k])), .im (.int ((t : Nat) : Int)), .im (.int ((k : Nat) : Int)), .im (.int ((a : Nat) : Int)), .own [fr (s k / s r)]]) ((st_app (i := 4) rfl (by rw [List.length_map]; omega) (ev_var rfl rfl)).to (fun Γ e => e.trans ?_) fun _ z => z) ((st_put (i := 2) (j := k) (d := fr (s k / s r)) rfl (ev_ixL (ev_var rfl rfl) ev_int asked0) (ev_var rfl rfl) (by rw [List.length_map, List.length_range]; exact hk)).to (fun Γ e => ?_) fun _ z => z)
                  · unfold intsD
                    rw [List.map_append]
                    rfl
                  · refine ⟨(putR st2.1 k r, st2.2 ++ [k]), .im (.int ((k : Nat) : Int)), .im (.int ((a : Nat) : Int)), .own [fr (s k / s r)], ext ++ [k], ?_, ht3, ?_, ?_, ?_, rfl⟩
                    · rw [e, scL_put]
                      rfl
                    · show st2.2 ++ [k] = _
                      rw [hext, List.append_assoc]
                    · rw [List.length_append, List.length_singleton]
                      omega
                    · intro x hx
                      rcases List.mem_append.mp hx with hx | hx
                      · exact hmem2 x hx
                      · rw [List.mem_singleton.mp hx]
                        exact hk
                | some r' =>
                  rw [qk] at hst
                  have hst : (if r' = r then some st2 else none) = some st3 := hst
                  have er : r' = r := by
                    by_cases h : r' = r
                    · exact h
                    · rw [if_neg h] at hst
                      cases hst
                  subst er
                  rw [if_pos rfl] at hst
                  cases hst
                  rw [qk] at sck
                  refine st_seq (Γ1 := [.im (netD N), .im (.int ((N.n : Nat) : Int)), .own (scL N.n s st2.1), .im (.int ((i : Nat) : Int)), .own (intsD st2.2), .im (.int ((t : Nat) : Int)), .im (.int ((k : Nat) : Int)), .im (.int ((a : Nat) : Int)), .own [fr (s k / s r')]]) (st_no ((tv_or (b := false) (c := false) (tv_test (ev_eqNil (ev_var rfl rfl) (ev_ls (ev_lst (ds := []) av_nil)) hcm)) fun _ => (tv_and (b := true) (tv_test (ev_notN (d := fr (s k / s r')) (ev_ixL (ev_var rfl rfl) (ev_var rfl rfl) sck))) fun _ => tv_test (ev_neF (p := s k / s r') (q := s k / s r') (ev_ixL (ev_var rfl rfl) (ev_var rfl rfl) sck) (ev_ixL (ev_var rfl rfl) ev_int asked0))).as (by rw [decide_eq_true rfl]; rfl)).as rfl) st_next) ?_
                  refine st_no (tv_test (ev_isN (d := fr (s k / s r')) (ev_ixL (ev_var rfl rfl) (ev_var rfl rfl) sck))) (st_next.to (fun Γ e => ?_) fun _ z => z)
                  subst e
                  exact ⟨_, _, _, _, ext, rfl, ht3, hext, by omega, hmem2, rfl⟩
            · unfold toStep at hst
              rw [if_neg (by rw [z]; decide)] at hst
              cases hst
              refine st_next.to (fun Γ e => ?_) fun _ z => z
              subst e
              refine ⟨_, _, _, _, ext, rfl, ht3, hext, by omega, hmem2, ?_⟩
              show (true && (true && (s8.noL && true))) = true
              rw [hs8]
              rfl
          · obtain ⟨st2, s6, s7, s8, ext, rfl, hto, hext, hel, hmem2, hno2⟩ := e
            rw [ht2] at hto
            cases hto
            refine ⟨_, _, _, _, _, rfl, ht1, by rw [hext, List.length_append]; omega, hmem2, ?_⟩
            show (true && [s6, s7, s8].all Slot.noL) = true
            rw [hno2]
            rfl
        · rw [if_neg hc] at ht2
          cases ht2
          have rng : Ev K T none (tIf (tTest (tOp (rI0 fun i j => .bl (decide (i < j))) (tVar 5) (tCB (rLenA K) (tCons (tVar 4) tNil)))) (tVar 1) (tC (.int 0))) [.im (netD N), .im (.int ((N.n : Nat) : Int)), .own (scL N.n s st.1), .im (.int ((i : Nat) : Int)), .own (intsD st.2), .im (.int ((t : Nat) : Int)), s6, s7, s8] (.im (.int ((0 : Nat) : Int))) := (ev_ifD tst (fun _ => (ev_var rfl rfl)) fun _ => ev_int).as (by
            rw [decide_eq_false hc]
            rfl)
          refine (st_forP (n := 0) (it_rngN (av_cons (rng) av_nil) (by omega)) (fun z => z) (fun k Γ => Γ = [.im (netD N), .im (.int ((N.n : Nat) : Int)), .own (scL N.n s st.1), .im (.int ((i : Nat) : Int)), .own (intsD st.2), .im (.int ((t : Nat) : Int)), s6, s7, s8]) rfl (fun k Γ hk => absurd hk (Nat.not_lt_zero _)) (fun Γ h => h)).to (fun Γ e => ?_) fun _ z => z
          subst e
          refine ⟨_, _, _, _, _, rfl, ht1, by omega, hmem, ?_⟩
          show (true && [s6, s7, s8].all Slot.noL) = true
          rw [(Bool.and_eq_true_iff.mp hno).2]
          rfl
      · obtain ⟨st, s5, s6, s7, s8, rfl, ht, _, _, hno⟩ := e
        rw [ht9] at ht
        cases ht
        rw [← e9] at hn1
        exact ⟨st9.1, _, _, _, _, _, _, rfl, hn1, hno⟩
    · rintro Γ ⟨ri, s3, s4, s5, s6, s7, s8, rfl, h, _⟩
      rw [hrs] at h
      cases h
      exact ⟨_, _, _, _, _, _, rfl⟩
    · rintro Γ ⟨s3, s4, s5, s6, s7, s8, rfl⟩
      refine st_ret (ev_tupL (ev_var rfl rfl)) ?_
      congr 2
      refine List.map_congr_left fun i hi => ?_
      obtain ⟨r, q⟩ := Option.isSome_iff_exists.mp (hall i (List.mem_range.mp hi))
      show scV s i (rs i) = fr (s i / s ((rs i).getD 0))
      rw [q]
      rfl
end
end Hn
end

section
set_option Elab.async false
set_option linter.all false
set_option maxRecDepth 100000
set_option maxHeartbeats 1000000
namespace Hn
open PySem PySem.Spec PyProof.Rows L2 NdefX LamX HnQ
section
variable {P : Program} {w : World} {K : PySem.W.Frag} {mg : Str → Option Value} {base : Heap} {T : List NTab}
/-! ### ints of which only a property is told -/
abbrev IntP (p : Int → Prop) : Kd → Prop := fun k => ∃ i, k = .im (.int i) ∧ p i
section
variable {mo : Option Addr} {w : Addr} {ta tb te ti : TE} {tg : TA} {Γ : List Slot} {p q r : Int → Prop} {i j : Int} {N : List Slot → Prop} {R : Kd → Prop} {n m : Nat}
theorem evi_of (h : Ev K T mo ta Γ (.im (.int i))) (hp : p i) : EvP K T mo ta Γ (IntP p) := h.to fun k e => ⟨i, e, hp⟩
theorem evi_op {C : Int → Int → Prop} {f : Int → Int → Int} (ha : EvP K T mo ta Γ (IntP p)) (hb : EvP K T mo tb Γ (IntP q)) (h : ∀ i j, p i → q j → C i j ∧ r (f i j)) : EvP K T mo (tOp (rI C fun i j => .int (f i j)) ta tb) Γ (IntP r) :=
  ev_opP ha hb fun k1 k2 ⟨i, e1, p1⟩ ⟨j, e2, p2⟩ => ⟨.int i, .int j, e1, e2, fun H x y Q r1 r2 z => by
    cases r1
    cases r2
    exact ⟨i, j, rfl, rfl, (h i j p1 p2).1, z _ _ ⟨_, rfl, (h i j p1 p2).2⟩ (.int _) rfl⟩⟩
theorem evi_op0 {f : Int → Int → Int} (ha : EvP K T mo ta Γ (IntP p)) (hb : EvP K T mo tb Γ (IntP q)) (h : ∀ i j, p i → q j → r (f i j)) : EvP K T mo (tOp (rI0 fun i j => .int (f i j)) ta tb) Γ (IntP r) :=
  ev_opP ha hb fun k1 k2 ⟨i, e1, p1⟩ ⟨j, e2, p2⟩ => ⟨.int i, .int j, e1, e2, fun H x y Q r1 r2 z => by
    cases r1
    cases r2
    exact ⟨i, j, rfl, rfl, z _ _ ⟨_, rfl, h i j p1 p2⟩ (.int _) rfl⟩⟩
theorem evi_int (h : EvP K T mo ta Γ (IntP p)) : EvP K T mo (tCB rIntA (tCons ta tNil)) Γ (IntP p) := ev_intI h fun k ⟨i, e, _⟩ => ⟨i, e⟩
/-- a place of the well -/
theorem evi_well (hs : Γ[m]? = some (.par .wl)) (hi : Ev K T (some w) ti Γ (.im (.int ((n : Nat) : Int)))) (hn : n < 3) : EvP K T (some w) (tOp (rIxL K) (tVar m) ti) Γ (IntP (0 ≤ ·)) := fun H0 σ H Q E z => by
  obtain ⟨v, h1, h2, _⟩ := E.rd hs rfl
  obtain ⟨a, rfl, ea⟩ := h2
  cases ea
  refine ⟨.ref w, h1, ?_⟩
  refine hi H0 σ H _ E fun y H2 k p e2 r2 => ?_
  subst p
  cases r2
  obtain ⟨i, j, k, h3, h4, h5, h6⟩ := (E.on e2).wl w rfl
  match n, hn with
  | 0, _ => exact ⟨w, _, _, .int i, rfl, rfl, .of h6, atI_nat (j := 0) rfl, z (.int i) H2 _ ⟨i, rfl, h3⟩ e2 (.int _)⟩
  | 1, _ => exact ⟨w, _, _, .int j, rfl, rfl, .of h6, atI_nat (j := 1) rfl, z (.int j) H2 _ ⟨j, rfl, h4⟩ e2 (.int _)⟩
  | 2, _ => exact ⟨w, _, _, .int k, rfl, rfl, .of h6, atI_nat (j := 2) rfl, z (.int k) H2 _ ⟨k, rfl, h5⟩ e2 (.int _)⟩
/-- the well is changed -/
theorem LeM.wellPut {H : Hp} {i j k i' j' k' : Int} (h : H w = some (.lst [.int i, .int j, .int k])) (h1 : 0 ≤ i') (h2 : 0 ≤ j') (h3 : 0 ≤ k') : LeM T (some w) H (upd H w (.lst [.int i', .int j', .int k'])) := by
  refine ⟨fun b o n e _ => ?_, fun b o e => ?_, fun t => tabs_upd h t, fun _ b e => ?_, tup_upd h (fun _ z => nomatch z) (fun _ _ z => nomatch z)⟩
  · have nb : b ≠ w := fun z => n (by rw [z])
    rw [upd_ne nb]
    exact e
  · by_cases hb : b = w
    · exact ⟨_, by rw [hb, upd_same]⟩
    · exact ⟨o, by rw [upd_ne hb]; exact e⟩
  · cases e
    exact ⟨i', j', k', h1, h2, h3, upd_same⟩
theorem well_set {H : Hp} {x : Int} (wl : Wl (some w) H) (hn : n < 3) (hx : 0 ≤ x) : ∃ xs : List V, H w = some (.lst xs) ∧ ixN xs.length ((n : Nat) : Int) = some n ∧ LeM T (some w) H (upd H w (.lst (xs.set n (.int x)))) := by
  obtain ⟨i, j, k, h3, h4, h5, h6⟩ := wl w rfl
  refine ⟨_, h6, ixN_ofNat hn, ?_⟩
  match n, hn with
  | 0, _ => exact .wellPut h6 hx h4 h5
  | 1, _ => exact .wellPut h6 h3 hx h5
  | 2, _ => exact .wellPut h6 h3 h4 hx
/-- well[n] = e -/
theorem st_well (hs : Γ[m]? = some (.par .wl)) (he : EvP K T (some w) te Γ (IntP (0 ≤ ·))) (hi : Ev K T (some w) ti Γ (.im (.int ((n : Nat) : Int)))) (hn : n < 3) : StP K T (some w) true (tAsg te (gSub (tVar m) ti rSetL)) Γ (fun Γ' => Γ' = Γ) R := fun H0 σ H D E q1 q2 =>
  he H0 σ H _ E fun v H1 k p e1 r1 => by
    obtain ⟨x, rfl, hx⟩ := p
    cases r1
    obtain ⟨v, h1, h2, _⟩ := (E.on e1).rd hs rfl
    obtain ⟨a, rfl, ea⟩ := h2
    cases ea
    refine ⟨.ref w, h1, ?_⟩
    refine hi H0 σ H1 _ (E.on e1) fun y H2 k p e2 r2 => ?_
    subst p
    cases r2
    have E2 := (E.on e1).on e2
    obtain ⟨xs, g1, g2, g3⟩ := well_set (T := T) (n := n) E2.wl hn hx
    refine ⟨w, xs, _, n, rfl, rfl, g1, g2, q1 _ _ _ rfl (E2.on g3) (.of ((e1.trans e2).trans g3))⟩
/-- well[n], name = a pair of ints -/
theorem st_wellTup {d : Nat} {P : Int → Prop} (hs : Γ[m]? = some (.par .wl)) (hi : Ev K T (some w) ti Γ (.im (.int ((n : Nat) : Int)))) (hn : n < 3)
    (he : EvP K T (some w) te Γ (fun k => ∃ x y, k = .im (.tup [.int x, .int y]) ∧ 0 ≤ x ∧ P y)) (hN : ∀ y, P y → N (Γ.set d (.im (.int y)))) :
    StP K T (some w) true (tAsg te (gTup K 2 (gCons (gSub (tVar m) ti rSetL) (gCons (gName d) gNil)))) Γ N R := fun H0 σ H D E q1 q2 =>
  he H0 σ H _ E fun v H1 k p e1 r1 => by
    obtain ⟨x, y, rfl, hx, hy⟩ := p
    cases r1 with
    | @tup a xs _ hq ha =>
      cases ha with
      | cons r2 ha =>
        cases ha with
        | cons r3 ha =>
          cases ha
          cases r2
          cases r3
          refine ⟨a, _, rfl, hq, rfl, .int x, _, rfl, ?_⟩
          obtain ⟨v, h1, h2, _⟩ := (E.on e1).rd hs rfl
          obtain ⟨b, rfl, ea⟩ := h2
          cases ea
          refine ⟨.ref w, h1, ?_⟩
          refine hi H0 σ H1 _ (E.on e1) fun z H2 k p e2 r2 => ?_
          subst p
          cases r2
          have E2 := (E.on e1).on e2
          obtain ⟨xs, g1, g2, g3⟩ := well_set (T := T) (n := n) E2.wl hn hx
          refine ⟨w, xs, _, n, rfl, rfl, g1, g2, .int y, [], rfl, ?_⟩
          exact ⟨rfl, q1 _ _ _ (hN y hy) ((E2.on g3).setIm d (.int y)) (.of ((e1.trans e2).trans g3))⟩
theorem evi_divmod (ha : EvP K T mo ta Γ (IntP (0 ≤ ·))) (hb : Ev K T mo tb Γ (.im (.int ((n : Nat) : Int)))) (h0 : 0 < n) (h1 : n < 2 ^ 60) : EvP K T mo (tCB rDivA (tCons ta (tCons tb tNil))) Γ (fun k => ∃ x y, k = .im (.tup [.int x, .int y]) ∧ 0 ≤ x ∧ (0 ≤ y ∧ y < n)) := fun H0 σ H Q E z =>
  ha H0 σ H _ E fun v H1 k p e1 r1 => hb H0 σ H1 _ (E.on e1) fun u H2 k2 p2 e2 r2 => by
    obtain ⟨x, rfl, hx⟩ := p
    subst p2
    cases r1
    cases r2
    refine ⟨x, n, rfl, ⟨by omega, PyProof.noPylong_of_log2 (Nat.lt_of_lt_of_le (PySem.Flt.log2_lt_of (k := 60) (by decide) (by omega)) (by decide))⟩, fun p hp => ?_⟩
    refine z (.ref p) _ _ ⟨_, _, rfl, Int.ediv_nonneg hx (by omega), Int.emod_nonneg _ (by omega), Int.emod_lt_of_pos _ (by omega)⟩ ((e1.trans e2).trans (.new hp)) (.tup (.inl (.inl upd_same)) (.cons (.int _) (.cons (.int _) .nil)))
end
inductive R_law_draw : List Kd → (Kd → Prop) → Prop
  | mk (n : Nat) (h0 : 0 < n) (h1 : n < 2 ^ 60) : R_law_draw [.wl, .im (.int ((n : Nat) : Int))] (IntP fun i => 0 ≤ i ∧ i < n)
theorem mod_pos {i m : Int} (h : 0 < m) : 0 ≤ i % m ∧ i % m < m := ⟨Int.emod_nonneg _ (by omega), Int.emod_lt_of_pos _ h⟩
theorem g_law_draw (M : Mods K mg)  : WFn P w K mg base T "_law_draw" s_law_draw ["_law_well_here", "_law_few"] 1 R_law_draw := by
  refine wf_of (T := T) M.f_law_draw sc_law_draw (fun ks k h => by cases h; rfl) (fun _ _ _ _ _ _ us hl => match us, hl with | [_, _], _ => rfl) fun f cdv A outer s H hr gd => ⟨_,
    (pss_cons (ps_if (pt_cmpR op_gt (pe_ix (ixL (K := K) rfl) (pv 0) pe_int (fun _ _ => rfl)) pe_int (nomark _)) (pss_cons (ps_asg (pe_callB c_divmod (by rfl) M.n_divmod PyProof.Rows.boot_divmod (pa_cons (pe_ix (ixL (K := K) rfl) (pv 0) pe_int (fun _ _ => rfl)) (pa_cons (pv 1) pa_nil))) (pg_tup rfl (pgs_cons (pg_sub (pv 0) pe_int set_list) (pgs_cons (pg_name (i := 2) sc_law_draw.nd rfl (.inl rfl)) pgs_nil))))
      (pss_one (ps_ret (pv 2)))) pss_nil)
      (pss_cons (ps_asg (pe_op op_add (pe_ix (ixL (K := K) rfl) (pv 0) pe_int (fun _ _ => rfl)) pe_int) (pg_sub (pv 0) pe_int set_list))
      (pss_cons (ps_set (i := 3) sc_law_draw.nd rfl (.inl rfl) (pe_op op_mod (pe_callTy c_int (by rfl) M.n_int PyProof.Rows.boot_int (pa_cons (pe_op op_add (pe_op op_mul (pe_ix (ixL (K := K) rfl) (pv 0) pe_int (fun _ _ => rfl)) pe_int) (pe_op op_mul pe_int (pe_ix (ixL (K := K) rfl) (pv 0) pe_int (fun _ _ => rfl)))) pa_nil)) pe_int))
      (pss_cons (ps_asg (pe_op op_mod (pe_callTy c_int (by rfl) M.n_int PyProof.Rows.boot_int (pa_cons (pe_op op_add (pe_op op_mul (pv 3) (pe_op op_add (pe_op op_mod (pe_callTy c_int (by rfl) M.n_int PyProof.Rows.boot_int (pa_cons (pv 3) pa_nil)) pe_int) pe_int)) (pe_ix (ixL (K := K) rfl) (pv 0) pe_int (fun _ _ => rfl))) pa_nil)) pe_int) (pg_sub (pv 0) pe_int set_list))
      (pss_one (ps_ret (pe_op op_mod (pe_callTy c_int (by rfl) M.n_int PyProof.Rows.boot_int (pa_cons (pe_op op_fdivZ (pe_ix (ixL (K := K) rfl) (pv 0) pe_int (fun _ _ => rfl)) pe_int) pa_nil)) (pv 1)))))))), fun a ks R h => ?_⟩
  cases h with
  | mk n h0 h1 =>
    refine st_seqP (N1 := fun Γ => Γ = [.par .wl, .im (.int ((n : Nat) : Int)), .none, .none]) (st_ifP (tv_testP (B := fun _ => True) (ev_opP (evi_well rfl ev_int (n := 0) (by decide)) (P2 := fun k => k = .im (.int 0)) ev_int fun k1 k2 ⟨i, e1, p1⟩ e2 => ⟨.int i, .int 0, e1, e2, fun H x y Q r1 r2 z => by
      cases r1
      cases r2
      exact ⟨i, 0, rfl, rfl, z (.bl _) (.im (.bl (decide (i > 0)))) ⟨_, rfl⟩ (.bl _) rfl⟩⟩) (P := fun k => ∃ b, k = .im (.bl b)) fun k ⟨b, e⟩ => ⟨b, e, trivial⟩) (fun _ => ?_) fun _ => st_next) ?_
    · refine st_seqP (N1 := fun Γ => ∃ y, Γ = [.par .wl, .im (.int ((n : Nat) : Int)), .im (.int y), .none] ∧ 0 ≤ y ∧ y < n) (st_wellTup (n := 0) rfl ev_int (by decide) (evi_divmod (evi_well (n := 0) rfl ev_int (by decide)) (ev_var rfl rfl) h0 h1) fun y hy => ⟨y, rfl, hy⟩) ?_
      rintro Γ ⟨y, rfl, hy⟩
      exact st_ret (ev_var rfl rfl) ⟨y, rfl, hy⟩
    rintro Γ rfl
    refine st_seq (st_well (n := 2) rfl (evi_op0 (evi_well (n := 2) rfl ev_int (by decide)) (evi_of (p := fun j => j = 1) ev_int rfl) fun i j h1 h2 => by omega) ev_int (by decide)) ?_
    refine st_seqP (N1 := fun Γ => ∃ x, Γ = [.par .wl, .im (.int ((n : Nat) : Int)), .none, .im (.int x)] ∧ 0 ≤ x ∧ x < 2147483489) (st_setP (evi_op (p := fun _ => True) (q := fun j => j = 2147483489) (r := fun x => 0 ≤ x ∧ x < 2147483489) (evi_int (evi_op0 (p := fun _ => True) (q := fun _ => True) (evi_op (r := fun _ => True) (evi_well (n := 1) rfl ev_int (by decide)) (evi_of (p := fun j => j = 48271) ev_int rfl) fun i j _ h => ⟨.inr (by omega), trivial⟩) (evi_op (r := fun _ => True) (evi_of (p := fun j => j = 15017) ev_int rfl) (evi_well (n := 2) rfl ev_int (by decide)) fun i j h _ => ⟨.inl (by omega), trivial⟩) fun _ _ _ _ => trivial)) (evi_of ev_int rfl) fun i j _ h => ⟨by omega, by rw [h]; exact mod_pos (by decide)⟩) fun k ⟨x, e, hx⟩ => by subst e; exact ⟨rfl, x, rfl, hx⟩) ?_
    rintro Γ ⟨x, rfl, hx⟩
    refine st_seq (st_well (n := 1) rfl (evi_op (p := fun _ => True) (q := fun j => j = 2147483489) (evi_int (evi_op0 (p := fun _ => True) (q := fun _ => True) (evi_op (p := fun j => j = x) (q := fun _ => True) (r := fun _ => True) (evi_of (ev_var rfl rfl) rfl) (evi_op0 (p := fun _ => True) (q := fun _ => True) (evi_op (p := fun _ => True) (q := fun j => j = 5003) (r := fun _ => True) (evi_int (evi_of (ev_var rfl rfl) trivial)) (evi_of ev_int rfl) fun i j _ h => ⟨by omega, trivial⟩) (evi_of ev_int trivial) fun _ _ _ _ => trivial) fun i j h _ => ⟨.inl (by omega), trivial⟩) ((evi_well (n := 2) rfl ev_int (by decide)).to fun k ⟨i, e, _⟩ => ⟨i, e, trivial⟩) fun _ _ _ _ => trivial)) (evi_of ev_int rfl) fun i j _ h => ⟨by omega, by rw [h]; exact (mod_pos (by decide)).1⟩) ev_int (by decide)) ?_
    exact st_retP (evi_op (p := fun _ => True) (q := fun j => j = n) (evi_int (evi_op (r := fun _ => True) (evi_well (n := 1) rfl ev_int (by decide)) (evi_of (p := fun j => j = 1009) ev_int rfl) fun i j _ h => ⟨by rw [h]; exact ⟨by decide, by decide +kernel⟩, trivial⟩)) (evi_of (ev_var rfl rfl) rfl) fun i j _ h => ⟨by omega, by rw [h]; exact mod_pos (by omega)⟩) fun k z => z
end
end Hn
end

section
set_option Elab.async false
set_option linter.all false
set_option maxRecDepth 100000
set_option maxHeartbeats 1000000
namespace Hn
open PySem PySem.Spec PyProof.Rows L2 NdefX LamX HnQ
section
variable {P : Program} {w : World} {K : PySem.W.Frag} {mg : Str → Option Value} {base : Heap} {T : List NTab}
section
variable {a : Addr} {mo : Option Addr} {ta tb : TE} {tg : TA} {Γ : List Slot} {ks : List Kd} {spec : List Kd → (Kd → Prop) → Prop} {P : Kd → Prop}
theorem ev_callWd (h : Av K T (some a) tg Γ ks) (hs : spec ks P) : EvP K T (some a) (tCall (PrW K T spec) [] E0 tg) Γ P :=
  ev_callW fun H0 σ H Q E q => h H0 σ H Q E fun vs H' ks' e => q vs H' ks' ⟨P, e ▸ hs, fun _ z => z⟩
/-- the call of a def that changes nothing and may answer in many ways -/
theorem ev_callN (h : Av K T none tg Γ ks) (hs : spec ks P) : EvP K T none (tCall (Prm K T none spec) [] E0 tg) Γ P := fun H0 σ H Q E q =>
  h H0 σ H _ E fun vs H1 ks' p e1 r1 => by
    subst p
    have E1 := E.on e1
    rw [List.append_nil]
    exact ⟨E1.tb, E1.wl, _, P, r1, hs, fun v H2 k z e2 r2 => q v H2 k z (e1.trans e2) (r2.back e1)⟩
abbrev FrP (n d : Nat) : Kd → Prop := fun k => ∃ q : Rat, k = .im (fr q) ∧ Bd n d q
theorem ev_lean (ha : EvP K T mo ta Γ (IntP fun i => i.natAbs < 2 ^ 20)) (hb : EvP K T mo tb Γ (IntP fun i => 0 < i ∧ i < 64)) : EvP K T mo (tCall (Prm K T none (DSpec R_law_lean)) [] E0 (tCons ta (tCons tb tNil))) Γ (FrP 20 6) :=
  ev_callP (av_consP ha (av_consP hb av_nil (P4 := fun ks => ∃ j, ks = [.im (.int j)] ∧ 0 < j ∧ j < 64) fun k ks ⟨j, e, hj⟩ e2 => by
    subst e e2
    exact ⟨⟨j, rfl, hj⟩, .inl rfl⟩) fun k ks ⟨i, e, hi⟩ ⟨j, e2, hj⟩ => by
    subst e e2
    refine ⟨⟨.im (fr (Rat.divInt i j)), .mk i j (by omega) ?_, rfl, rfl, Rat.divInt i j, rfl, bd_div i j 20 6 hi (by omega) (by omega)⟩, .inl rfl⟩
    unfold Big
    exact Nat.lt_of_lt_of_le (show j.natAbs < 2 ^ 6 by omega) (two_le (by decide)))
end
theorem nf_of {x : Str} {st : Stmt} {N ps : List Str} {k : Nat} {spec : List Kd → (Kd → Prop) → Prop} (F : Fg K mg x st) (S : FnScope N ps (defScope st)) (len : ∀ ks P, spec ks P → ks.length = ps.length)
    (hb : ∀ (kV doc pm : Value) (an : Option Addr) (cdv ct : Value) (us : List Value), us.length = ps.length → bindArgs (PySem.W.fnOf x x (defArgs st) (defBody st) (defScope st) .none kV doc pm an cdv ct) ⟨us, []⟩ = pure (ps.zip us))
    (body : ∀ (f : Addr) (cdv : Value) (A : Around) (outer : List Env) (s : Shared) (H : Hp), Room k (A.deeper (envOfC x (defScope st) s.heap.objs.size f cdv)) → A.guards = some [] →
      ∃ t, PSs (bodyCx P w K mg base N x st f cdv A outer s H) (defBody st) t ∧
        ∀ ks P, spec ks P → StP K T none true t (ks.map Kd.pslot ++ List.replicate (N.length - ks.length) .none) (fun _ => False) P) : GFn P w K mg base x st ps (k + 1) (Prm K T none spec) := by
  obtain ⟨f, fd, hm, F⟩ := F
  refine ⟨f, fd, hm, fnG_of F S (fun vs H Q h => ?_) (fun cdv A outer s H vs Q hr gd h => ?_), F, F.binds hb⟩
  · obtain ⟨_, _, ks, P, h1, h2, _⟩ := h
    rw [KrA.length h1]
    exact len ks P h2
  · obtain ⟨tb, wl, ks, P, h1, h2, q⟩ := h
    obtain ⟨t, ht, hs⟩ := body f cdv A outer s H hr gd
    exact ⟨t, ht, hs ks P h2 H _ H _ (start_ok h1 tb wl) (fun _ _ _ z _ _ => z.elim) (fun v H' k' z e' r' => q v H' k' z e' r')⟩
inductive R_law_one : List Kd → (Kd → Prop) → Prop
  | mk (ds : List D) (h0 : 0 < ds.length) (h1 : ds.length < 2 ^ 60) : R_law_one [.wl, .im (.tup ds)] (fun k => ∃ d, d ∈ ds ∧ k = .im d)
theorem g_law_one (M : Mods K mg) (G_law_draw : WFn P w K mg base T "_law_draw" s_law_draw ["_law_well_here", "_law_few"] 1 R_law_draw) : WFn P w K mg base T "_law_one" s_law_one ["_law_well_here", "_law_some"] 2 R_law_one := by
  refine wf_of (T := T) M.f_law_one sc_law_one (fun ks k h => by cases h; rfl) (fun _ _ _ _ _ _ us hl => match us, hl with | [_, _], _ => rfl) fun f cdv A outer s H hr gd => ⟨_,
    (pss_one (ps_ret (pe_ix (ixT (K := K) rfl) (pv 1) (pe_gf G_law_draw hr (by decide) gd (by rfl) (pa_cons (pv 0) (pa_cons (pe_callB (lenK (K := K) rfl) (by rfl) M.n_len PySem.boot_len (pa_cons (pv 1) pa_nil)) pa_nil))) (fun _ _ => rfl)))), fun a ks R h => ?_⟩
  cases h with
  | mk ds h0 h1 =>
    refine st_retP (ev_ixTP (I := fun i => 0 ≤ i ∧ i < ds.length) (ev_var rfl rfl) (ev_callWd (av_cons ((ev_var rfl rfl)) (av_cons (ev_lenT (ev_var rfl rfl)) av_nil)) (R_law_draw.mk ds.length h0 h1)) (P := fun k => ∃ d, d ∈ ds ∧ k = .im d) fun i hi => ?_) fun k z => z
    obtain ⟨n, rfl⟩ := Int.eq_ofNat_of_zero_le hi.1
    have hn : n < ds.length := by have := hi.2; omega
    exact ⟨ds[n], atI_nat (List.getElem?_eq_getElem hn), ds[n], List.getElem_mem hn, rfl⟩
inductive R_law_weight : List Kd → (Kd → Prop) → Prop
  | mk : R_law_weight [.wl] (FrP 20 6)
theorem g_law_weight (M : Mods K mg) (G_law_draw : WFn P w K mg base T "_law_draw" s_law_draw ["_law_well_here", "_law_few"] 1 R_law_draw) (G_law_lean : PFn P w K mg base T "_law_lean" s_law_lean ["_law_top", "_law_base"] 1 R_law_lean) (G_law_one : WFn P w K mg base T "_law_one" s_law_one ["_law_well_here", "_law_some"] 2 R_law_one) : WFn P w K mg base T "_law_weight" s_law_weight ["_law_well_here"] 3 R_law_weight := by
  refine wf_of (T := T) M.f_law_weight sc_law_weight (fun ks k h => by cases h; rfl) (fun _ _ _ _ _ _ us hl => match us, hl with | [_], _ => rfl) fun f cdv A outer s H hr gd => ⟨_,
    (pss_cons (ps_set (i := 1) sc_law_weight.nd rfl (.inl rfl) (pe_gf G_law_draw hr (by decide) gd (by rfl) (pa_cons (pv 0) (pa_cons pe_int pa_nil))))
      (pss_cons (ps_if (pt_cmpR op_lt (pv 1) pe_int (nomark _)) (pss_one (ps_ret (pe_tup (pa_cons pe_int (pa_cons pe_int pa_nil))))) pss_nil)
      (pss_cons (ps_if (pt_cmpR op_lt (pv 1) pe_int (nomark _)) (pss_one (ps_ret (pe_gf G_law_lean hr (by decide) gd (by rfl) (pa_cons (pe_gf G_law_one hr (by decide) gd (by rfl) (pa_cons (pv 0) (pa_cons (pe_tup (pa_cons pe_int (pa_cons pe_int (pa_cons pe_int (pa_cons pe_int (pa_cons (pe_un un_neg pe_int) (pa_cons (pe_un un_neg pe_int) (pa_cons (pe_un un_neg pe_int) (pa_cons pe_int pa_nil))))))))) pa_nil))) (pa_cons (pe_gf G_law_one hr (by decide) gd (by rfl) (pa_cons (pv 0) (pa_cons (pe_tup (pa_cons pe_int (pa_cons pe_int (pa_cons pe_int (pa_cons pe_int (pa_cons pe_int pa_nil)))))) pa_nil))) pa_nil))))) pss_nil)
      (pss_one (ps_ret (pe_gf G_law_lean hr (by decide) gd (by rfl) (pa_cons (pe_op op_sub (pe_gf G_law_draw hr (by decide) gd (by rfl) (pa_cons (pv 0) (pa_cons pe_int pa_nil))) pe_int) (pa_cons (pe_op op_add pe_int (pe_gf G_law_draw hr (by decide) gd (by rfl) (pa_cons (pv 0) (pa_cons pe_int pa_nil)))) pa_nil)))))))), fun a ks R h => ?_⟩
  cases h with
  | mk =>
    refine st_seqP (N1 := fun Γ => ∃ i, Γ = [.par .wl, .im (.int i)]) (st_setP (ev_callWd (av_cons ((ev_var rfl rfl)) (av_cons (ev_int) av_nil)) (R_law_draw.mk 9 (by decide) (by decide))) fun k ⟨i, e, _⟩ => by subst e; exact ⟨rfl, i, rfl⟩) ?_
    rintro Γ ⟨i, rfl⟩
    refine st_seqP (N1 := fun Γ => Γ = [.par .wl, .im (.int i)]) (st_if (tv_test (ev_opB0 (ev_var rfl rfl) ev_int)) (fun _ => st_ret (ev_lit (q := 0) ev_int ev_int rfl rfl) ⟨0, rfl, Bd.zero.to⟩) fun _ => st_next) ?_
    rintro Γ rfl
    refine st_seqP (N1 := fun Γ => Γ = [.par .wl, .im (.int i)]) (st_if (tv_test (ev_opB0 (ev_var rfl rfl) ev_int)) (fun _ => st_retP (ev_lean ((ev_callWd (av_cons ((ev_var rfl rfl)) (av_cons (ev_tup (ds := [.int 1, .int 1, .int 2, .int 3, .int (-1), .int (-2), .int (-1), .int 1]) (av_cons (ev_int) (av_cons (ev_int) (av_cons (ev_int) (av_cons (ev_int) (av_cons (ev_unI ev_int) (av_cons (ev_unI ev_int) (av_cons (ev_unI ev_int) (av_cons (ev_int) av_nil))))))))) av_nil)) (R_law_one.mk _ (by decide) (by decide))).to ?_) ((ev_callWd (av_cons ((ev_var rfl rfl)) (av_cons (ev_tup (ds := [.int 1, .int 1, .int 1, .int 2, .int 3]) (av_cons (ev_int) (av_cons (ev_int) (av_cons (ev_int) (av_cons (ev_int) (av_cons (ev_int) av_nil)))))) av_nil)) (R_law_one.mk _ (by decide) (by decide))).to ?_)) fun k z => z) fun _ => st_next) ?_
    · rintro k ⟨d, hd, rfl⟩
      simp only [List.mem_cons, List.not_mem_nil, or_false] at hd
      rcases hd with rfl | rfl | rfl | rfl | rfl | rfl | rfl | rfl <;> exact ⟨_, rfl, by decide⟩
    · rintro k ⟨d, hd, rfl⟩
      simp only [List.mem_cons, List.not_mem_nil, or_false] at hd
      rcases hd with rfl | rfl | rfl | rfl | rfl <;> exact ⟨_, rfl, by decide⟩
    rintro Γ rfl
    refine st_retP (ev_lean (evi_op0 (q := fun j => j = 1000000) (ev_callWd (av_cons ((ev_var rfl rfl)) (av_cons (ev_int) av_nil)) (R_law_draw.mk 2000001 (by decide) (by decide))) (evi_of ev_int rfl) fun i j h1 h2 => ?_) (evi_op0 (p := fun i => i = 1) (evi_of ev_int rfl) (ev_callWd (av_cons ((ev_var rfl rfl)) (av_cons (ev_int) av_nil)) (R_law_draw.mk 60 (by decide) (by decide))) fun i j h1 h2 => ?_)) fun k z => z
    · have h3 := h1.2
      have h4 : (2 : Nat) ^ 20 = 1048576 := by decide
      omega
    · omega
inductive R_law_marks : List Kd → (Kd → Prop) → Prop
  | mk (n : Nat) (hn : n ≤ 4) : R_law_marks [.wl, .im (.int ((n : Nat) : Int))] (fun k => ∃ M : Nat → Rat, k = .im (rowF n M) ∧ ∀ i, Bd 20 6 (M i))
theorem bd_lit {q : Rat} (h1 : q.num.natAbs < 2 ^ 20) (h2 : q.den < 2 ^ 6) : Bd 20 6 q := ⟨h1, h2⟩
theorem row_snoc {n : Nat} {M : Nat → Rat} {q : Rat} : ((List.range n).map fun i => fr (M i)) ++ [fr q] = (List.range (n + 1)).map fun i => fr (if i = n then q else M i) := by
  rw [List.range_succ, List.map_append]
  congr 1
  · refine List.map_congr_left fun i hi => ?_
    have := List.mem_range.mp hi
    rw [if_neg (by omega)]
  · show [fr q] = [fr (if n = n then q else M n)]
    rw [if_pos rfl]
theorem g_law_marks (M : Mods K mg) (G_law_one : WFn P w K mg base T "_law_one" s_law_one ["_law_well_here", "_law_some"] 2 R_law_one) (G_law_draw : WFn P w K mg base T "_law_draw" s_law_draw ["_law_well_here", "_law_few"] 1 R_law_draw) (G_law_weight : WFn P w K mg base T "_law_weight" s_law_weight ["_law_well_here"] 3 R_law_weight) : WFn P w K mg base T "_law_marks" s_law_marks ["_law_well_here", "_law_few"] 4 R_law_marks := by
  refine wf_of (T := T) M.f_law_marks sc_law_marks (fun ks k h => by cases h; rfl) (fun _ _ _ _ _ _ us hl => match us, hl with | [_, _], _ => rfl) fun f cdv A outer s H hr gd => ⟨_,
    (pss_cons (ps_set (i := 2) sc_law_marks.nd rfl (.inl rfl) (pe_lst pa_nil))
      (pss_cons (ps_for PassesOwn.never rfl (pi_range1 (by rfl) M.n_range (pa_cons (pv 1) pa_nil)) (pg_name (i := 3) sc_law_marks.nd rfl (.inl rfl))
      (pss_cons (ps_set (i := 4) sc_law_marks.nd rfl (.inl rfl) (pe_gf G_law_one hr (by decide) gd (by rfl) (pa_cons (pv 0) (pa_cons (pe_tup (pa_cons (pe_tup (pa_cons pe_int (pa_cons pe_int pa_nil))) (pa_cons (pe_tup (pa_cons pe_int (pa_cons pe_int pa_nil))) (pa_cons (pe_tup (pa_cons pe_int (pa_cons pe_int pa_nil))) (pa_cons (pe_tup (pa_cons pe_int (pa_cons pe_int pa_nil))) (pa_cons (pe_tup (pa_cons (pe_un un_neg pe_int) (pa_cons pe_int pa_nil))) (pa_cons (pe_tup (pa_cons pe_int (pa_cons pe_int pa_nil))) (pa_cons (pe_tup (pa_cons (pe_un un_neg pe_int) (pa_cons pe_int pa_nil))) (pa_cons (pe_tup (pa_cons pe_int (pa_cons pe_int pa_nil))) pa_nil))))))))) pa_nil))))
      (pss_one (ps_expr (pe_bm PySem.F.plainAttrs_list PySem.F.slot_list_append PySem.F.type_list_append mt_append (pv 2) (pa_cons (pe_ifExp (pt_cmpR op_eq (pe_gf G_law_draw hr (by decide) gd (by rfl) (pa_cons (pv 0) (pa_cons pe_int pa_nil))) pe_int (nomark _)) (pe_gf G_law_weight hr (by decide) gd (by rfl) (pa_cons (pv 0) pa_nil)) (pv 4)) pa_nil))))))
      (pss_one (ps_ret (pe_callTy (tupK (K := K) rfl) (by rfl) M.n_tuple PyProof.Rows.boot_tuple (pa_cons (pv 2) pa_nil)))))), fun a ks R h => ?_⟩
  cases h with
  | mk n hn =>
    refine st_seq (Γ1 := [.par .wl, .im (.int ((n : Nat) : Int)), .own [], .none, .none]) (st_set (ev_lst (ds := []) av_nil)) ?_
    refine st_seqP (N1 := fun Γ => ∃ (M : Nat → Rat) (s3 s4 : Slot), Γ = [.par .wl, .im (.int ((n : Nat) : Int)), .own ((List.range n).map fun i => fr (M i)), s3, s4] ∧ ∀ i, Bd 20 6 (M i)) (st_forP (n := n) (it_rngN (av_cons ((ev_var rfl rfl)) av_nil) (by omega)) (fun z => z) (fun i Γ => ∃ (M : Nat → Rat) (s3 s4 : Slot), Γ = [.par .wl, .im (.int ((n : Nat) : Int)), .own ((List.range i).map fun i => fr (M i)), s3, s4] ∧ ∀ i, Bd 20 6 (M i)) ⟨fun _ => 0, _, _, rfl, fun _ => Bd.zero.to⟩ ?_ (fun Γ h => h)) ?_
    · rintro i Γ hi ⟨M, s3, s4, rfl, hM⟩
      refine st_seqP (N1 := fun Γ => ∃ q, Γ = [.par .wl, .im (.int ((n : Nat) : Int)), .own ((List.range i).map fun i => fr (M i)), .im (.int ((i : Nat) : Int)), .im (fr q)] ∧ Bd 20 6 q) (st_setP (P := fun k => ∃ q, k = .im (fr q) ∧ Bd 20 6 q) ((ev_callWd (av_cons ((ev_var rfl rfl)) (av_cons (ev_tup (ds := [fr (1 / 2), fr (1 / 2), fr 0, fr 1, fr (-1 / 2), fr (3 / 2), fr (-1), fr (1 / 3)]) (av_cons (ev_lit ev_int ev_int half_num half_den) (av_cons (ev_lit ev_int ev_int half_num half_den) (av_cons (ev_lit ev_int ev_int rfl rfl) (av_cons (ev_lit ev_int ev_int rfl rfl) (av_cons (ev_lit (ev_unI ev_int) ev_int (by decide +kernel) (by decide +kernel)) (av_cons (ev_lit ev_int ev_int (by decide +kernel) (by decide +kernel)) (av_cons (ev_lit (ev_unI ev_int) ev_int (by decide +kernel) (by decide +kernel)) (av_cons (ev_lit ev_int ev_int (by decide +kernel) (by decide +kernel)) av_nil))))))))) av_nil)) (R_law_one.mk _ (by decide) (by decide))).to ?_) fun k ⟨q, e, hq⟩ => by subst e; exact ⟨rfl, q, rfl, hq⟩) ?_
      · rintro k ⟨d, hd, rfl⟩
        simp only [List.mem_cons, List.not_mem_nil, or_false] at hd
        rcases hd with rfl | rfl | rfl | rfl | rfl | rfl | rfl | rfl <;> exact ⟨_, rfl, bd_lit (by decide +kernel) (by decide +kernel)⟩
      rintro Γ ⟨q, rfl, hq⟩
      refine st_appP (i := 2) (P := fun k => ∃ q, k = .im (fr q) ∧ Bd 20 6 q) rfl (by rw [List.length_map, List.length_range]; omega) (ev_ifP (B := fun _ => True) (tv_testP (P := fun k => ∃ b, k = .im (.bl b)) (ev_opP (P2 := fun k => k = .im (.int 0)) (ev_callWd (av_cons ((ev_var rfl rfl)) (av_cons (ev_int) av_nil)) (R_law_draw.mk 6 (by decide) (by decide))) ev_int fun k1 k2 ⟨i, e1, p1⟩ e2 => ⟨.int i, .int 0, e1, e2, fun H x y Q r1 r2 z => by
        cases r1
        cases r2
        exact ⟨rfl, z (.bl (decide (V.int i = V.int 0))) (.im (.bl _)) ⟨_, rfl⟩ (.bl _) rfl⟩⟩) fun k ⟨b, e⟩ => ⟨b, e, trivial⟩) (fun _ => ev_callWd (av_cons ((ev_var rfl rfl)) av_nil) .mk) fun _ => EvP.of (p := fun k => ∃ q, k = .im (fr q) ∧ Bd 20 6 q) (ev_var rfl rfl) ⟨q, rfl, hq⟩) fun k ⟨q, e, hq⟩ => ?_
      subst e
      refine ⟨_, rfl, ?_⟩
      rw [row_snoc]
      refine ⟨fun j => if j = i then q else M j, _, _, rfl, fun j => ?_⟩
      show Bd 20 6 (if j = i then q else M j)
      split
      · exact hq
      · exact hM j
    · rintro Γ ⟨M, s3, s4, rfl, hM⟩
      exact st_ret (ev_tupL (ev_var rfl rfl)) ⟨M, rfl, hM⟩
end
end Hn
end

section
set_option Elab.async false
set_option linter.all false
set_option maxRecDepth 100000
set_option maxHeartbeats 1000000
namespace Hn
open PySem PySem.Spec PyProof.Rows L2 NdefX LamX HnQ
section
variable {P : Program} {w : World} {K : PySem.W.Frag} {mg : Str → Option Value} {base : Heap} {T : List NTab}
/-- a list that repr shows -/
structure ShowOk (ds : List D) : Prop where
  cmp : ∀ d ∈ ds, d.cmp
  sh : (PyData.list (D.pys ds)).showable = true
  nd : (PyData.list (D.pys ds)).hasDict = false
  dp : (PyData.list (D.pys ds)).depth ≤ 64
  ln : (PyData.list (D.pys ds)).shown.length ≤ sizeLine
section
variable {mo : Option Addr} {ta tk : TE} {tg : TA} {Γ : List Slot} {ds : List D} {ks : List Kd} {k : Kd} {R : List Kd → Kd → Prop}
theorem ev_repr (h : Ev K T mo ta Γ (.ls ds)) (o : ShowOk ds) : Ev K T mo (tCB (rReprD K) (tCons ta tNil)) Γ (.im (.str (PyData.list (D.pys ds)).shown)) := ev_c1 h fun H H1 v Q _ _ r q => by
  have hd := r.dpL o.cmp
  obtain ⟨a, xs, rfl, _⟩ := r
  exact ⟨a, _, rfl, hd, o.sh, o.nd, o.dp, o.ln, q _ H1 LeM.refl (.str _)⟩
theorem KrA.snoc {H : Hp} {v : V} {k : Kd} : ∀ {vs : List V} {ks : List Kd}, KrA K mo H vs ks → Kr K mo H H v k ∧ (k.arg = true ∨ k = .wl) → KrA K mo H (vs ++ [v]) (ks ++ [k])
  | _, _, .nil, h => .cons h .nil
  | _, _, .cons a t, h => .cons a (KrA.snoc t h)
theorem KrA.rev {H : Hp} : ∀ {vs : List V} {ks : List Kd}, KrA K mo H vs ks → KrA K mo H vs.reverse ks.reverse
  | _, _, .nil => .nil
  | _, _, .cons a t => by
    rw [List.reverse_cons, List.reverse_cons]
    exact KrA.snoc (KrA.rev t) a
theorem ev_callKw (h : Av K T mo tg Γ ks) (hR : R ks.reverse k) (hret : k.ret = true := by rfl) (harg : ks.reverse.all Kd.arg = true := by rfl) : Ev K T mo (tCallKw (Prm K T none (DSpec R)) List.reverse tg) Γ k := fun H0 σ H Q E q =>
  h H0 σ H _ E fun vs H1 ks' p e1 r1 => by
    subst p
    have E1 := E.on e1
    refine ⟨E1.tb, (fun b z => nomatch z), _, _, r1.rev.down harg, ⟨k, hR, hret, harg, rfl⟩, fun v H2 k' z e2 r2 => ?_⟩
    have e2' : LeM T mo H1 H2 := e2.up
    subst z
    exact q v H2 _ rfl (e1.trans e2') ((r2.up hret).back e1)
end
theorem short_int {i : Int} (h : i.natAbs < 2 ^ 1300) : (PyData.int i).showable = true ∧ (PyData.shown (.int i)).length ≤ 401 := by
  refine ⟨?_, ?_⟩
  · show decide (i.natAbs.log2 < 1920) = true
    exact decide_eq_true (Nat.lt_of_le_of_lt (Nat.le_of_lt_succ (PySem.Flt.log2_lt_of (k := 1301) (by decide) (Nat.lt_of_lt_of_le h (two_le (by decide))))) (by decide))
  · have e := int_text_length_le10 (a := i) (k := 400) (by decide) (Nat.lt_of_lt_of_le h (by decide +kernel))
    show (Str.ofString (toString i)).length ≤ 401
    rw [PySem.ofString_length]
    exact e
theorem show_frs {p q r : Rat} (hp : Bd 700 700 p) (hq : Bd 700 700 q) (hr : Bd 700 700 r) : ShowOk [fr p, fr q, fr r] := by
  have s : ∀ {x : Rat}, Bd 700 700 x → ((PyData.int x.num).showable = true ∧ (PyData.shown (.int x.num)).length ≤ 401) ∧ ((PyData.int x.den).showable = true ∧ (PyData.shown (.int x.den)).length ≤ 401) := fun h =>
    ⟨short_int (Nat.lt_of_lt_of_le h.num (two_le (by decide))), short_int (Nat.lt_of_lt_of_le h.den (two_le (by decide)))⟩
  obtain ⟨⟨a1, a2⟩, a3, a4⟩ := s hp
  obtain ⟨⟨b1, b2⟩, b3, b4⟩ := s hq
  obtain ⟨⟨c1, c2⟩, c3, c4⟩ := s hr
  have e : PyData.list (D.pys [fr p, fr q, fr r]) = .list [.tuple [.int p.num, .int p.den], .tuple [.int q.num, .int q.den], .tuple [.int r.num, .int r.den]] := by simp only [D.pys, D.py]
  refine ⟨fun d hd => ?_, ?_, ?_, ?_, ?_⟩
  · simp only [List.mem_cons, List.not_mem_nil, or_false] at hd
    rcases hd with rfl | rfl | rfl <;> exact cmp_fr _
  · rw [e]
    simp only [PyData.showable, PyData.showableAll, Bool.and_true, Bool.and_eq_true]
    exact ⟨⟨a1, a3⟩, ⟨b1, b3⟩, c1, c3⟩
  · rw [e]
    rfl
  · rw [e]
    simp [PyData.depth, PyData.depthAll]
  · rw [e]
    have hb := PyData.shown_le_bulk 401 (by decide) (.list [.tuple [.int p.num, .int p.den], .tuple [.int q.num, .int q.den], .tuple [.int r.num, .int r.den]]) (by
      simp only [PyData.leavesShort, PyData.leavesShortAll, Bool.and_true, Bool.and_eq_true, decide_eq_true_eq]
      exact ⟨⟨a2, a4⟩, ⟨b2, b4⟩, c2, c4⟩)
    have hk : (PyData.list [.tuple [.int p.num, .int p.den], .tuple [.int q.num, .int q.den], .tuple [.int r.num, .int r.den]]).bulk = 9 := by simp [PyData.bulk, PyData.bulkAll]
    rw [hk] at hb
    have := PySem.sizeLine_eq
    omega
theorem show_ints {m : Int} (h : m.natAbs < 2 ^ 1300) : ShowOk [.int m, .int m] := by
  obtain ⟨a1, a2⟩ := short_int h
  have e : PyData.list (D.pys [.int m, .int m]) = .list [.int m, .int m] := by simp only [D.pys, D.py]
  refine ⟨fun d hd => ?_, ?_, ?_, ?_, ?_⟩
  · simp only [List.mem_cons, List.not_mem_nil, or_false] at hd
    rcases hd with rfl | rfl <;> exact cmp_int _
  · rw [e]
    simp only [PyData.showable, PyData.showableAll, Bool.and_true, Bool.and_eq_true]
    exact ⟨a1, a1⟩
  · rw [e]
    rfl
  · rw [e]
    simp [PyData.depth, PyData.depthAll]
  · rw [e]
    have hb := PyData.shown_le_bulk 401 (by decide) (.list [.int m, .int m]) (by
      simp only [PyData.leavesShort, PyData.leavesShortAll, Bool.and_true, Bool.and_eq_true, decide_eq_true_eq]
      exact ⟨a2, a2⟩)
    have hk : (PyData.list [.int m, .int m]).bulk = 2 := by simp [PyData.bulk, PyData.bulkAll]
    rw [hk] at hb
    have := PySem.sizeLine_eq
    omega
inductive R_law_is_level_right : List Kd → (Kd → Prop) → Prop
  | mk (N : Net) (c : Nat → Rat) (h : Told N c) (hp : ∀ i, 0 < c i) : R_law_is_level_right [.wl, .im (netD N), .im (rowF N.n c), .ls (liftL N)] (fun k => k = .im (.bl true))
theorem pow_lt {n : Nat} (h : n ≤ 4) : 2 ^ n < 2 ^ 60 := Nat.pow_lt_pow_right (by decide) (by omega)
theorem g_law_is_level_right (M : Mods K mg) (G_law_draw : WFn P w K mg base T "_law_draw" s_law_draw ["_law_well_here", "_law_few"] 1 R_law_draw) (G_law_as_state : PFn P w K mg base T "_law_as_state" s_law_as_state ["_law_number", "_law_few"] 1 R_law_as_state) (G_law_level : PFn P w K mg base T "_law_level" s_law_level ["_law_net", "_law_scales", "_law_lifted_here", "_law_one_here", "_law_two"] 4 R_law_level) (G_level : PFn P w K mg base T "level" s_level ["net", "other", "state"] 8 R_level) : WFn P w K mg base T "_law_is_level_right" s_law_is_level_right ["_law_well_here", "_law_net", "_law_scales", "_law_lifted_here"] 9 R_law_is_level_right := by
  refine wf_of (T := T) M.f_law_is_level_right sc_law_is_level_right (fun ks k h => by cases h; rfl) (fun _ _ _ _ _ _ us hl => match us, hl with | [_, _, _, _], _ => rfl) fun f cdv A outer s H hr gd => ⟨_,
    (pss_cons (ps_set (i := 4) sc_law_is_level_right.nd rfl (.inl rfl) (pe_callB (lenK (K := K) rfl) (by rfl) M.n_len PySem.boot_len (pa_cons (pv 2) pa_nil)))
      (pss_cons (ps_par (i := 5) (j := 6) rfl sc_law_is_level_right.nd rfl rfl (by decide) rfl rfl (pa_cons (pe_gf G_law_draw hr (by decide) gd (by rfl) (pa_cons (pv 0) (pa_cons (pe_op op_shl pe_int (pv 4)) pa_nil))) (pa_cons (pe_gf G_law_draw hr (by decide) gd (by rfl) (pa_cons (pv 0) (pa_cons (pe_op op_shl pe_int (pv 4)) pa_nil))) pa_nil)) (by rfl))
      (pss_cons (ps_par3 (i := 7) (j := 8) (l := 9) rfl sc_law_is_level_right.nd rfl rfl rfl (by decide) (by decide) (by decide) rfl rfl rfl (pa_cons (pe_gf G_law_level hr (by decide) gd (by rfl) (pa_cons (pv 1) (pa_cons (pv 2) (pa_cons (pv 3) (pa_cons (pv 5) (pa_cons (pv 6) pa_nil)))))) (pa_cons (pe_gf G_law_as_state hr (by decide) gd (by rfl) (pa_cons (pv 5) (pa_cons (pv 4) pa_nil))) (pa_cons (pe_gf G_law_as_state hr (by decide) gd (by rfl) (pa_cons (pv 6) (pa_cons (pv 4) pa_nil))) pa_nil))) (by rfl))
      (pss_cons (ps_set (i := 10) sc_law_is_level_right.nd rfl (.inl rfl) (pe_lst (pa_cons (pe_gf G_level hr (by decide) gd (by rfl) (pa_cons (pv 1) (pa_cons (pv 8) (pa_cons (pv 9) pa_nil)))) (pa_cons (pe_gf G_level hr (by decide) gd (by rfl) (pa_cons (pv 1) (pa_cons (pv 9) (pa_cons (pv 8) pa_nil)))) (pa_cons (pe_gfK G_level hr (by decide) gd (by rfl) (ks := ["state", "other", "net"]) (g := List.reverse) (fun _ _ _ _ _ _ us hl => match us, hl with | [_, _, _], _ => ⟨rfl, rfl⟩) (fun hl hv => valsRev hv) rfl (pk_cons (pv 9) (pk_cons (pv 8) (pk_cons (pv 1) pk_nil))) rfl rfl (fun _ _ _ ⟨a0, b0, a1, b1, a2, b2, q⟩ => ⟨a0, b0, a1, b1, a2, b2, rfl, q⟩)) pa_nil)))))
      (pss_one (ps_ret (pe_cmpR op_eq (pe_callB (c_repr hr gd) (by rfl) M.n_repr PyProof.Rows.boot_repr (pa_cons (pv 10) pa_nil)) (pe_callB (c_repr hr gd) (by rfl) M.n_repr PyProof.Rows.boot_repr (pa_cons (pe_lst (pa_cons (pv 7) (pa_cons (pv 7) (pa_cons (pv 7) pa_nil)))) pa_nil)) (nomark _)))))))), fun a ks R h => ?_⟩
  cases h with
  | mk N c h hp =>
    have hl := h.ok.le
    have L := lift_ok h.ok
    refine st_seq (Γ1 := [.par .wl, .im (netD N), .im (rowF N.n c), .par (.ls (liftL N)), .im (.int ((N.n : Nat) : Int)), .none, .none, .none, .none, .none, .none]) (st_set ((ev_lenT (ev_var rfl rfl)).as (k' := .im (.int ((N.n : Nat) : Int))) (by rw [row_len]))) ?_
    refine st_seqP (N1 := fun Γ => ∃ o s : Nat, Γ = [.par .wl, .im (netD N), .im (rowF N.n c), .par (.ls (liftL N)), .im (.int ((N.n : Nat) : Int)), .im (.int ((o : Nat) : Int)), .im (.int ((s : Nat) : Int)), .none, .none, .none, .none]) (st_parP (av_consP (ev_callWd (av_cons ((ev_var rfl rfl)) (av_cons (ev_shl1 ev_int (ev_var rfl rfl) (by omega)) av_nil)) (R_law_draw.mk (2 ^ N.n) (Nat.two_pow_pos _) (pow_lt hl))) (av_consP (ev_callWd (av_cons ((ev_var rfl rfl)) (av_cons (ev_shl1 ev_int (ev_var rfl rfl) (by omega)) av_nil)) (R_law_draw.mk (2 ^ N.n) (Nat.two_pow_pos _) (pow_lt hl))) av_nil (P4 := fun ks => ∃ i, ks = [.im (.int i)] ∧ 0 ≤ i) fun k ks ⟨i, e, hi, _⟩ e2 => by
      subst e e2
      exact ⟨⟨i, rfl, hi⟩, .inl rfl⟩) fun k ks ⟨i, e, hi, _⟩ ⟨j, e2, hj⟩ => by
      subst e e2
      obtain ⟨o, rfl⟩ := Int.eq_ofNat_of_zero_le hi
      obtain ⟨s, rfl⟩ := Int.eq_ofNat_of_zero_le hj
      exact ⟨⟨_, _, rfl, o, s, rfl⟩, .inl rfl⟩)) ?_
    rintro Γ ⟨o, s, rfl⟩
    have hb : Bal (lift N) c := h.bal
    have e1 := level_sym hb s o
    refine st_seq (Γ1 := [.par .wl, .im (netD N), .im (rowF N.n c), .par (.ls (liftL N)), .im (.int ((N.n : Nat) : Int)), .im (.int ((o : Nat) : Int)), .im (.int ((s : Nat) : Int)), .im (fr (HnQ.level (lift N) c o s)), .im (stD N.n o), .im (stD N.n s), .none]) (st_par3 (av_cons ((ev_call (av_cons ((ev_var rfl rfl)) (av_cons ((ev_var rfl rfl)) (av_cons ((ev_var rfl rfl)) (av_cons ((ev_var rfl rfl)) (av_cons ((ev_var rfl rfl)) av_nil))))) (R_law_level.mk N c o s h.ok h.cbd))) (av_cons ((ev_call (av_cons ((ev_var rfl rfl)) (av_cons ((ev_var rfl rfl)) av_nil)) (R_law_as_state.mk N.n o hl))) (av_cons ((ev_call (av_cons ((ev_var rfl rfl)) (av_cons ((ev_var rfl rfl)) av_nil)) (R_law_as_state.mk N.n s hl))) av_nil)))) ?_
    refine st_seq (Γ1 := [.par .wl, .im (netD N), .im (rowF N.n c), .par (.ls (liftL N)), .im (.int ((N.n : Nat) : Int)), .im (.int ((o : Nat) : Int)), .im (.int ((s : Nat) : Int)), .im (fr (HnQ.level (lift N) c o s)), .im (stD N.n o), .im (stD N.n s), .own [fr (HnQ.level (lift N) c o s), fr (HnQ.level (lift N) c o s), fr (HnQ.level (lift N) c o s)]]) (st_set (ev_lst (ds := [_, _, _]) (av_cons ((ev_call (av_cons ((ev_var rfl rfl)) (av_cons ((ev_var rfl rfl)) (av_cons ((ev_var rfl rfl)) av_nil))) (R_level.mk N c o s h))) (av_cons (((ev_call (av_cons ((ev_var rfl rfl)) (av_cons ((ev_var rfl rfl)) (av_cons ((ev_var rfl rfl)) av_nil))) (R_level.mk N c s o h))).as (k' := .im (fr (HnQ.level (lift N) c o s))) (by rw [e1])) (av_cons (ev_callKw (av_cons ((ev_var rfl rfl)) (av_cons ((ev_var rfl rfl)) (av_cons ((ev_var rfl rfl)) av_nil))) (R_level.mk N c o s h)) av_nil))))) ?_
    have b := (level_bd L h.cbd o s)
    have so := show_frs (b.to (by decide) (by decide)) (b.to (by decide) (by decide)) (b.to (by decide) (by decide))
    exact st_ret ((ev_eqS (ev_repr (ev_var rfl rfl) so) (ev_repr (ev_ls (ev_lst (ds := [_, _, _]) (av_cons ((ev_var rfl rfl)) (av_cons ((ev_var rfl rfl)) (av_cons ((ev_var rfl rfl)) av_nil))))) so)).as (by rw [decide_eq_true rfl])) rfl
inductive R_law_is_bound_right : List Kd → (Kd → Prop) → Prop
  | mk (N : Net) (c : Nat → Rat) (h : Told N c) (hp : ∀ i, 0 < c i) : R_law_is_bound_right [.wl, .im (netD N), .im (rowF N.n c), .ls (liftL N), .ls (stepsL N)] (fun k => k = .im (.bl true))
theorem most_lt {N : Net} {c : Nat → Rat} (h : NetOk N) (hc : CBd c) (hp : ∀ i, 0 < c i) (s : Nat) : (most N c s).natAbs < 2 ^ 1300 := by
  have hd : dropR N c ≠ 0 := fun z => by
    have q := dropR_pos h.toWOk hp
    rw [z] at q
    exact absurd q (by decide)
  have sb := (((nextE_bd h hc s).sub (leastE_bd h hc)).div (dropR_bd h hc) hd).num
  have e : (most N c s) = ((nextE N c s - leastE N c) / dropR N c).num / (((nextE N c s - leastE N c) / dropR N c).den : Int) := by
    unfold most
    rw [Rat.floor_def]
  generalize (nextE N c s - leastE N c) / dropR N c = x at *
  rw [e]
  refine Nat.lt_of_le_of_lt (Int.natAbs_ediv_le_natAbs _ _) ?_
  exact Nat.lt_of_lt_of_le sb (two_le (by decide))
theorem g_law_is_bound_right (M : Mods K mg) (G_law_least_level : PFn P w K mg base T "_law_least_level" s_law_least_level ["_law_net", "_law_scales", "_law_lifted_here"] 4 R_law_least_level) (G_law_drop : PFn P w K mg base T "_law_drop" s_law_drop ["_law_scales", "_law_lifted_here"] 3 R_law_drop) (G_law_draw : WFn P w K mg base T "_law_draw" s_law_draw ["_law_well_here", "_law_few"] 1 R_law_draw) (G_law_as_state : PFn P w K mg base T "_law_as_state" s_law_as_state ["_law_number", "_law_few"] 1 R_law_as_state) (G_law_level : PFn P w K mg base T "_law_level" s_law_level ["_law_net", "_law_scales", "_law_lifted_here", "_law_one_here", "_law_two"] 4 R_law_level) (G_law_quotient : PFn P w K mg base T "_law_quotient" s_law_quotient ["_law_over_here", "_law_drop_here"] 3 R_law_quotient) (G_law_minus : PFn P w K mg base T "_law_minus" s_law_minus ["_law_x", "_law_y"] 2 R_law_minus) (G_most_steps : PFn P w K mg base T "most_steps" s_most_steps ["net", "state"] 10 R_most_steps) (G_run : PFn P w K mg base T "run" s_run ["net", "state"] 9 R_run) : WFn P w K mg base T "_law_is_bound_right" s_law_is_bound_right ["_law_well_here", "_law_net", "_law_scales", "_law_lifted_here", "_law_steps"] 11 R_law_is_bound_right := by
  refine wf_of (T := T) M.f_law_is_bound_right sc_law_is_bound_right (fun ks k h => by cases h; rfl) (fun _ _ _ _ _ _ us hl => match us, hl with | [_, _, _, _, _], _ => rfl) fun f cdv A outer s H hr gd => ⟨_,
    (pss_cons (ps_par (i := 5) (j := 6) rfl sc_law_is_bound_right.nd rfl rfl (by decide) rfl rfl (pa_cons (pe_gf G_law_drop hr (by decide) gd (by rfl) (pa_cons (pv 2) (pa_cons (pv 3) pa_nil))) (pa_cons (pe_gf G_law_least_level hr (by decide) gd (by rfl) (pa_cons (pv 1) (pa_cons (pv 2) (pa_cons (pv 3) pa_nil)))) pa_nil)) (by rfl))
      (pss_cons (ps_set (i := 7) sc_law_is_bound_right.nd rfl (.inl rfl) (pe_gf G_law_draw hr (by decide) gd (by rfl) (pa_cons (pv 0) (pa_cons (pe_callB (lenK (K := K) rfl) (by rfl) M.n_len PySem.boot_len (pa_cons (pv 4) pa_nil)) pa_nil))))
      (pss_cons (ps_set (i := 8) sc_law_is_bound_right.nd rfl (.inl rfl) (pe_gf G_law_as_state hr (by decide) gd (by rfl) (pa_cons (pv 7) (pa_cons (pe_callB (lenK (K := K) rfl) (by rfl) M.n_len PySem.boot_len (pa_cons (pv 2) pa_nil)) pa_nil))))
      (pss_cons (ps_set (i := 9) sc_law_is_bound_right.nd rfl (.inl rfl) (pe_gf G_law_level hr (by decide) gd (by rfl) (pa_cons (pv 1) (pa_cons (pv 2) (pa_cons (pv 3) (pa_cons (pe_ix (ixL (K := K) rfl) (pv 4) (pv 7) (fun _ _ => rfl)) (pa_cons (pv 7) pa_nil)))))))
      (pss_cons (ps_set (i := 10) sc_law_is_bound_right.nd rfl (.inl rfl) (pe_gf G_law_quotient hr (by decide) gd (by rfl) (pa_cons (pe_gf G_law_minus hr (by decide) gd (by rfl) (pa_cons (pv 9) (pa_cons (pv 6) pa_nil))) (pa_cons (pv 5) pa_nil))))
      (pss_cons (ps_set (i := 11) sc_law_is_bound_right.nd rfl (.inl rfl) (pe_lst (pa_cons (pe_gf G_most_steps hr (by decide) gd (by rfl) (pa_cons (pv 1) (pa_cons (pv 8) pa_nil))) (pa_cons (pe_gfK G_most_steps hr (by decide) gd (by rfl) (ks := ["state", "net"]) (g := List.reverse) (fun _ _ _ _ _ _ us hl => match us, hl with | [_, _], _ => ⟨rfl, rfl⟩) (fun hl hv => valsRev hv) rfl (pk_cons (pv 8) (pk_cons (pv 1) pk_nil)) rfl rfl (fun _ _ _ ⟨a0, b0, a1, b1, q⟩ => ⟨a0, b0, a1, b1, rfl, q⟩)) pa_nil))))
      (pss_one (ps_ret (pe_and (pe_cmpR op_eq (pe_callB (c_repr hr gd) (by rfl) M.n_repr PyProof.Rows.boot_repr (pa_cons (pv 11) pa_nil)) (pe_callB (c_repr hr gd) (by rfl) M.n_repr PyProof.Rows.boot_repr (pa_cons (pe_lst (pa_cons (pv 10) (pa_cons (pv 10) pa_nil))) pa_nil)) (nomark _)) (pe_one (pe_cmpR op_le (pe_callB (lenK (K := K) rfl) (by rfl) M.n_len PySem.boot_len (pa_cons (pe_ix (ixT (K := K) rfl) (pe_gf G_run hr (by decide) gd (by rfl) (pa_cons (pv 1) (pa_cons (pv 8) pa_nil))) pe_int (fun _ _ => rfl)) pa_nil)) (pv 10) (nomark _)))))))))))), fun a ks R h => ?_⟩
  cases h with
  | mk N c h hp =>
    have hl := h.ok.le
    have L := lift_ok h.ok
    have hd : dropR N c ≠ 0 := fun z => by
      have q := dropR_pos h.ok.toWOk hp
      rw [z] at q
      exact absurd q (by decide)
    refine st_seq (Γ1 := [.par .wl, .im (netD N), .im (rowF N.n c), .par (.ls (liftL N)), .par (.ls (stepsL N)), .im (fr (dropR N c)), .im (fr (leastE N c)), .none, .none, .none, .none, .none]) (st_par (av_cons ((ev_call (av_cons ((ev_var rfl rfl)) (av_cons ((ev_var rfl rfl)) av_nil)) (R_law_drop.mk N c h.ok h.cbd))) (av_cons ((ev_call (av_cons ((ev_var rfl rfl)) (av_cons ((ev_var rfl rfl)) (av_cons ((ev_var rfl rfl)) av_nil))) (R_law_least_level.mk N c h.ok h.cbd))) av_nil))) ?_
    refine st_seqP (N1 := fun Γ => ∃ s : Nat, s < 2 ^ N.n ∧ Γ = [.par .wl, .im (netD N), .im (rowF N.n c), .par (.ls (liftL N)), .par (.ls (stepsL N)), .im (fr (dropR N c)), .im (fr (leastE N c)), .im (.int ((s : Nat) : Int)), .none, .none, .none, .none]) (st_setP (ev_callWd (av_cons ((ev_var rfl rfl)) (av_cons ((ev_lenL (ev_var rfl rfl)).as (k' := .im (.int ((2 ^ N.n : Nat) : Int))) (by rw [len_row])) av_nil)) (R_law_draw.mk (2 ^ N.n) (Nat.two_pow_pos _) (pow_lt hl))) fun k ⟨i, e, h1, h2⟩ => by
      subst e
      obtain ⟨s, rfl⟩ := Int.eq_ofNat_of_zero_le h1
      exact ⟨rfl, s, by omega, rfl⟩) ?_
    rintro Γ ⟨s, hs, rfl⟩
    obtain ⟨k, a, hk, ho⟩ := orb_ex (F := next N) (B := 2 ^ N.n) (fun a _ => next_lt N a) hs
    have h16 := pow16 hl
    have tb := tail_bound (show Bal N c from h.bal) hp h.ok.pos hs ho
    have mb := most_lt h.ok h.cbd hp s
    have so := show_ints mb
    have sq : Small ((nextE N c s - leastE N c) / dropR N c) := (((nextE_bd h.ok h.cbd s).sub (leastE_bd h.ok h.cbd)).div (dropR_bd h.ok h.cbd) hd).to
    refine st_seq (Γ1 := [.par .wl, .im (netD N), .im (rowF N.n c), .par (.ls (liftL N)), .par (.ls (stepsL N)), .im (fr (dropR N c)), .im (fr (leastE N c)), .im (.int ((s : Nat) : Int)), .im (stD N.n s), .none, .none, .none]) (st_set (ev_call (av_cons ((ev_var rfl rfl)) (av_cons ((ev_lenT (ev_var rfl rfl)).as (k' := .im (.int ((N.n : Nat) : Int))) (by rw [row_len])) av_nil)) (R_law_as_state.mk N.n s hl))) ?_
    refine st_seq (Γ1 := [.par .wl, .im (netD N), .im (rowF N.n c), .par (.ls (liftL N)), .par (.ls (stepsL N)), .im (fr (dropR N c)), .im (fr (leastE N c)), .im (.int ((s : Nat) : Int)), .im (stD N.n s), .im (fr (nextE N c s)), .none, .none]) (st_set (ev_call (av_cons ((ev_var rfl rfl)) (av_cons ((ev_var rfl rfl)) (av_cons ((ev_var rfl rfl)) (av_cons (ev_ixL (ev_var rfl rfl) (ev_var rfl rfl) (ix_steps hs)) (av_cons ((ev_var rfl rfl)) av_nil))))) (R_law_level.mk N c (next N s) s h.ok h.cbd))) ?_
    refine st_seq (Γ1 := [.par .wl, .im (netD N), .im (rowF N.n c), .par (.ls (liftL N)), .par (.ls (stepsL N)), .im (fr (dropR N c)), .im (fr (leastE N c)), .im (.int ((s : Nat) : Int)), .im (stD N.n s), .im (fr (nextE N c s)), .im (.int (most N c s)), .none]) (st_set (ev_call (av_cons ((ev_call (av_cons ((ev_var rfl rfl)) (av_cons ((ev_var rfl rfl)) av_nil)) (R_law_minus.mk (nextE N c s) (leastE N c) (nextE_bd h.ok h.cbd s).to (leastE_bd h.ok h.cbd).to))) (av_cons ((ev_var rfl rfl)) av_nil)) (R_law_quotient.mk _ (dropR N c) ((nextE_bd h.ok h.cbd s).sub (leastE_bd h.ok h.cbd)).to (dropR_bd h.ok h.cbd).to hd sq))) ?_
    refine st_seq (Γ1 := [.par .wl, .im (netD N), .im (rowF N.n c), .par (.ls (liftL N)), .par (.ls (stepsL N)), .im (fr (dropR N c)), .im (fr (leastE N c)), .im (.int ((s : Nat) : Int)), .im (stD N.n s), .im (fr (nextE N c s)), .im (.int (most N c s)), .own [.int (most N c s), .int (most N c s)]]) (st_set (ev_lst (ds := [_, _]) (av_cons ((ev_call (av_cons ((ev_var rfl rfl)) (av_cons ((ev_var rfl rfl)) av_nil)) (R_most_steps.mk N c s h hp))) (av_cons (ev_callKw (av_cons ((ev_var rfl rfl)) (av_cons ((ev_var rfl rfl)) av_nil)) (R_most_steps.mk N c s h hp)) av_nil)))) ?_
    refine st_ret ((ev_andV (ev_eqS (ev_repr (ev_var rfl rfl) so) (ev_repr (ev_ls (ev_lst (ds := [_, _]) (av_cons ((ev_var rfl rfl)) (av_cons ((ev_var rfl rfl)) av_nil)))) so)) fun _ => ev_opB0 (ev_lenT (ev_ixT (ev_call (av_cons ((ev_var rfl rfl)) (av_cons ((ev_var rfl rfl)) av_nil)) (R_run.mk N s k a h.ok hs ho (by omega))) ev_int rfl)) (ev_var rfl rfl)).as ?_) rfl
    have e : (((orbL (stD N.n) (next N) s k).take a).length : Int) ≤ most N c s := by
      have lt := ho.lt
      rw [List.length_take, List.length_map, List.length_range, Nat.min_eq_left (by omega)]
      exact tb
    rw [decide_eq_true rfl, decide_eq_true e]
    rfl
end
end Hn
end

section
set_option Elab.async false
set_option linter.all false
set_option maxRecDepth 100000
set_option maxHeartbeats 1000000
namespace Hn
open PySem PySem.Spec PyProof.Rows L2 NdefX LamX HnQ
section
variable {P : Program} {w : World} {K : PySem.W.Frag} {mg : Str → Option Value} {base : Heap} {T : List NTab}
/-- a net as the law draws it: scaled by s -/
structure Drawn (N : Net) (s : Nat → Rat) : Prop where
  ok : NetOk N
  out : ∀ i j, (¬ i < N.n ∨ ¬ j < N.n) → N.W i j = 0
  pos : ∀ i, 0 < s i
  bd : ∀ i, Bd 2 2 (s i)
  tie : ∃ t : Nat → Nat → Rat, (∀ i j, t i j = t j i) ∧ ∀ i j, N.W i j = t i j / s i
theorem sg_mul {a b : Rat} (ha : 0 < a) : sg (a * b) = sg b := by
  unfold sg
  have h1 : (0 < a * b) ↔ 0 < b := by
    constructor
    · intro h
      apply Classical.byContradiction
      intro z
      have z : b ≤ 0 := Rat.not_lt.mp z
      have := Rat.mul_nonneg (Rat.le_of_lt ha) (show 0 ≤ -b by grind)
      grind
    · exact fun h => Rat.mul_pos ha h
  have h2 : (a * b < 0) ↔ b < 0 := by
    constructor
    · intro h
      apply Classical.byContradiction
      intro z
      have := Rat.mul_nonneg (Rat.le_of_lt ha) (Rat.not_lt.mp z)
      grind
    · intro h
      have := Rat.mul_pos ha (show 0 < -b by grind)
      grind
  rw [decide_eq_decide.mpr h1, decide_eq_decide.mpr h2]
theorem inv_pos' {a : Rat} (h : 0 < a) : 0 < a⁻¹ := Rat.inv_pos.mpr h
theorem drawn_facts {N : Net} {s : Nat → Rat} (h : Drawn N s) : (∀ i j, sg (N.W i j) = sg (N.W j i)) ∧ Rat2 N s ∧ TL N s ∧ (∀ i j, N.W i j ≠ 0 → N.W j i ≠ 0) := by
  obtain ⟨t, ts, tw⟩ := h.tie
  have nz : ∀ i, s i ≠ 0 := fun i z => by
    have := h.pos i
    rw [z] at this
    exact absurd this (by decide)
  have sym : ∀ i j, N.W i j ≠ 0 → N.W j i ≠ 0 := fun i j hz z => by
    rw [tw] at hz z
    have e : t j i = 0 := by
      rw [Rat.div_def] at z
      have := congrArg (· * s j) z
      simp only [Rat.mul_assoc, Rat.inv_mul_cancel _ (nz j), Rat.mul_one, Rat.zero_mul] at this
      exact this
    rw [ts i j, e, Rat.div_def, Rat.zero_mul] at hz
    exact hz rfl
  have tz : ∀ i j, N.W i j ≠ 0 → t i j ≠ 0 := fun i j hz z => by
    rw [tw, z, Rat.div_def, Rat.zero_mul] at hz
    exact hz rfl
  have R2 : Rat2 N s := ⟨nz, h.bd, fun i j _ _ => sym i j, fun i j _ _ hz => by
    have n1 := tz i j hz
    rw [tw i j, tw j i, ← ts i j]
    have a1 := nz i
    have a2 := nz j
    rw [Rat.div_def, Rat.div_def, Rat.div_def, Rat.div_def, Rat.inv_mul_rev, Rat.inv_inv]
    rw [show t i j * (s i)⁻¹ * (s j * (t i j)⁻¹) = (t i j * (t i j)⁻¹) * (s j * (s i)⁻¹) by grind, Rat.mul_inv_cancel _ n1, Rat.one_mul]⟩
  have ps : ∀ i j, N.W i j ≠ 0 → 0 < N.W i j * N.W j i := fun i j hz => by
    have n1 := tz i j hz
    rw [tw i j, tw j i, ← ts i j, Rat.div_def, Rat.div_def]
    have p1 := inv_pos' (h.pos i)
    have p2 := inv_pos' (h.pos j)
    have p3 : 0 < t i j * t i j := by
      by_cases q : 0 < t i j
      · exact Rat.mul_pos q q
      · have q : 0 < -(t i j) := by grind
        have := Rat.mul_pos q q
        grind
    have := Rat.mul_pos p3 (Rat.mul_pos p1 p2)
    grind
  refine ⟨fun i j => ?_, R2, ⟨R2, h.ok.toWOk, fun i j _ _ => ps i j⟩, sym⟩
  rw [tw i j, tw j i, ← ts i j, Rat.div_def, Rat.div_def, Rat.mul_comm, sg_mul (inv_pos' (h.pos i)), Rat.mul_comm, sg_mul (inv_pos' (h.pos j))]
theorem drawn_told {N : Net} {s : Nat → Rat} (h : Drawn N s) : ∃ rs, tStart N.n (adjN N) N.n = some rs ∧ (∀ i, i < N.n → (rs i).isSome = true) ∧ TL N s ∧ Told N (fun i => s i / s ((rs i).getD 0)) ∧ ∀ i, 0 < s i / s ((rs i).getD 0) := by
  obtain ⟨f1, f2, f3, f4⟩ := drawn_facts h
  have hl := h.ok.le
  obtain ⟨out, rs, W⟩ := walks_ex (adj := adjN N) h.ok.pos hl (fun i j => by
    unfold adjN
    rw [decide_eq_decide]
    exact ⟨f4 i j, f4 j i⟩) (fun i => by
    unfold adjN
    rw [h.ok.d i]
    rfl) (fun i j hi => by
    unfold adjN
    rw [h.out i j (.inl (by omega))]
    rfl)
  refine ⟨rs, W.told, fun i hi => ?_, f3, ⟨h.ok, fun i j _ _ => f1 i j, ⟨out, s, W.grown, f2, fun i hi => ?_⟩, fun i j hi hj => ?_, fun i => s_rat f2 _ _⟩, fun i => ?_⟩
  · obtain ⟨w, r, h1, h2, _⟩ := W.at_ i hi
    rw [h2]
    rfl
  · obtain ⟨w, r, h1, h2, h3, h4, h5, h6, h7, _⟩ := W.at_ i hi
    have e : wayOf out i = w := by
      unfold wayOf
      rw [h1]
      rfl
    rw [e, h1]
    refine ⟨rfl, ⟨h5, h6, fun k hk => of_decide_eq_true (h7 k hk)⟩, ?_⟩
    rw [h3, h4, h2]
    rfl
  · obtain ⟨t, ts, tw⟩ := h.tie
    by_cases hz : N.W i j = 0
    · have : N.W j i = 0 := Classical.byContradiction fun z => f4 j i z hz
      rw [hz, this, Rat.mul_zero, Rat.mul_zero]
    · obtain ⟨w, r, h1, h2, _, _, _, _, _, h8⟩ := W.at_ i hi
      have h9 := h8 j hj (decide_eq_true hz)
      show s i / s ((rs i).getD 0) * N.W i j = s j / s ((rs j).getD 0) * N.W j i
      rw [h2, h9, tw i j, tw j i, ← ts i j]
      show s i / s r * (t i j / s i) = s j / s r * (t i j / s j)
      have a1 := f2.nz i
      have a2 := f2.nz j
      rw [Rat.div_def, Rat.div_def, Rat.div_def, Rat.div_def]
      rw [show s i * (s r)⁻¹ * (t i j * (s i)⁻¹) = (s i * (s i)⁻¹) * ((s r)⁻¹ * t i j) by grind, show s j * (s r)⁻¹ * (t i j * (s j)⁻¹) = (s j * (s j)⁻¹) * ((s r)⁻¹ * t i j) by grind, Rat.mul_inv_cancel _ a1, Rat.mul_inv_cancel _ a2]
  · rw [Rat.div_def]
    exact Rat.mul_pos (h.pos _) (inv_pos' (h.pos _))
section
variable {mo : Option Addr} {ta : TE} {Γ : List Slot} {n : Nat}
theorem ev_ixTF (ha : EvP K T mo ta Γ (fun k => ∃ (N : Net) (s : Nat → Rat), k = .im (.tup [netD N, rowF N.n s]) ∧ Drawn N s)) : EvP K T mo (tOp (rIxT K) ta (tC (.int 0))) Γ (fun k => ∃ (N : Net) (s : Nat → Rat), k = .im (netD N) ∧ Drawn N s) := fun H0 σ H Q E q =>
  ha H0 σ H _ E fun x H1 k p e r => by
    obtain ⟨N, s, rfl, hd⟩ := p
    cases r with
    | @tup a xs _ hs hr =>
      obtain ⟨v, h1, h2⟩ := hr.at (i := 0) (d := netD N) rfl
      exact ⟨a, xs, 0, v, rfl, rfl, hs, h1, q v H1 _ ⟨N, s, rfl, hd⟩ e h2⟩
theorem ev_allB (h : Ev K T mo ta Γ (.fl ((List.range n).map fun _ => .bl true))) : Ev K T mo (tCB (rAll K) (tCons ta tNil)) Γ (.im (.bl true)) := ev_allT (b := fun _ => true) h fun _ _ => rfl
end
inductive R_law_scaled_net : List Kd → (Kd → Prop) → Prop
  | mk (n : Nat) (h0 : 0 < n) (hn : n ≤ 4) : R_law_scaled_net [.wl, .im (.int ((n : Nat) : Int))] (fun k => ∃ (N : Net) (s : Nat → Rat), k = .im (.tup [netD N, rowF N.n s]) ∧ Drawn N s)
inductive R_law_right : List Kd → (Kd → Prop) → Prop
  | mk : R_law_right [.wl] (fun k => k = .im (.bl true))
theorem g_law_right (M : Mods K mg) (G_law_scaled_net : WFn P w K mg base T "_law_scaled_net" s_law_scaled_net ["_law_well_here", "_law_few"] 5 R_law_scaled_net) (G_law_one : WFn P w K mg base T "_law_one" s_law_one ["_law_well_here", "_law_some"] 2 R_law_one) (G_law_told_scales : PFn P w K mg base T "_law_told_scales" s_law_told_scales ["_law_net"] 4 R_law_told_scales) (G_law_wishes : PFn P w K mg base T "_law_wishes" s_law_wishes ["_law_net"] 4 R_law_wishes) (G_law_lifted : PFn P w K mg base T "_law_lifted" s_law_lifted ["_law_net"] 4 R_law_lifted) (G_law_falls : PFn P w K mg base T "_law_falls" s_law_falls ["_law_net", "_law_scales", "_law_lifted_here", "_law_steps"] 5 R_law_falls) (G_rings : PFn P w K mg base T "rings" s_rings ["net"] 7 R_rings) (G_law_is_level_right : WFn P w K mg base T "_law_is_level_right" s_law_is_level_right ["_law_well_here", "_law_net", "_law_scales", "_law_lifted_here"] 9 R_law_is_level_right) (G_law_is_bound_right : WFn P w K mg base T "_law_is_bound_right" s_law_is_bound_right ["_law_well_here", "_law_net", "_law_scales", "_law_lifted_here", "_law_steps"] 11 R_law_is_bound_right) : WFn P w K mg base T "_law_right" s_law_right ["_law_well_here"] 12 R_law_right := by
  refine wf_of (T := T) M.f_law_right sc_law_right (fun ks k h => by cases h; rfl) (fun _ _ _ _ _ _ us hl => match us, hl with | [_], _ => rfl) fun f cdv A outer s H hr gd => ⟨_,
    (pss_cons (ps_set (i := 1) sc_law_right.nd rfl (.inl rfl) (pe_ix (ixT (K := K) rfl) (pe_gf G_law_scaled_net hr (by decide) gd (by rfl) (pa_cons (pv 0) (pa_cons (pe_gf G_law_one hr (by decide) gd (by rfl) (pa_cons (pv 0) (pa_cons (pe_tup (pa_cons pe_int (pa_cons pe_int (pa_cons pe_int (pa_cons pe_int (pa_cons pe_int (pa_cons pe_int pa_nil))))))) pa_nil))) pa_nil))) pe_int (fun _ _ => rfl)))
      (pss_cons (ps_set (i := 2) sc_law_right.nd rfl (.inl rfl) (pe_gf G_law_told_scales hr (by decide) gd (by rfl) (pa_cons (pv 1) pa_nil)))
      (pss_cons (ps_par (i := 3) (j := 4) rfl sc_law_right.nd rfl rfl (by decide) rfl rfl (pa_cons (pe_gf G_law_lifted hr (by decide) gd (by rfl) (pa_cons (pv 1) pa_nil)) (pa_cons (pe_gf G_law_wishes hr (by decide) gd (by rfl) (pa_cons (pv 1) pa_nil)) pa_nil)) (by rfl))
      (pss_cons (ps_if (PW.pt (pw_or (pt_not (pt_val (pe_callB (allK (K := K) rfl rfl) (by rfl) M.n_all PyProof.Rows.boot_all (pa_cons (pe_lc (own := [("_law_ring", 6)]) (g := gName 6) (tt := tYes) rfl sc_law_right.nd (pi_tup (pe_gf G_rings hr (by decide) gd (by rfl) (pa_cons (pv 1) pa_nil))) (blkOk_by (N := nm_law_right) (sc := defScope s_law_right) (by decide +kernel)) (fun _ _ _ _ _ => (pg_name (i := 6) sc_law_right.nd rfl (.inl rfl))) (fun _ _ _ _ _ => pts_nil) (fun _ _ _ _ _ => (pe_cmpR op_le (pe_callB (lenK (K := K) rfl) (by rfl) M.n_len PySem.boot_len (pa_cons (pv 6) pa_nil)) pe_int (nomark _)))) pa_nil)))) (pw_or1 (pt_not (pt_val (pe_gf G_law_falls hr (by decide) gd (by rfl) (pa_cons (pv 1) (pa_cons (pv 2) (pa_cons (pv 3) (pa_cons (pv 4) pa_nil)))))))))) (pss_one (ps_ret pe_bl)) pss_nil)
      (pss_cons (ps_for PassesOwn.never rfl (pi_range1 (by rfl) M.n_range (pa_cons pe_int pa_nil)) (pg_name (i := 5) sc_law_right.nd rfl (.inl rfl))
      (pss_cons (ps_if (pt_not (pt_val (pe_gf G_law_is_level_right hr (by decide) gd (by rfl) (pa_cons (pv 0) (pa_cons (pv 1) (pa_cons (pv 2) (pa_cons (pv 3) pa_nil))))))) (pss_one (ps_ret pe_bl)) pss_nil)
      (pss_one (ps_if (pt_not (pt_val (pe_gf G_law_is_bound_right hr (by decide) gd (by rfl) (pa_cons (pv 0) (pa_cons (pv 1) (pa_cons (pv 2) (pa_cons (pv 3) (pa_cons (pv 4) pa_nil)))))))) (pss_one (ps_ret pe_bl)) pss_nil))))
      (pss_one (ps_ret pe_bl))))))), fun a ks R h => ?_⟩
  cases h with
  | mk =>
    refine st_seqP (N1 := fun Γ => ∃ (N : Net) (s : Nat → Rat), Drawn N s ∧ Γ = [.par .wl, .im (netD N), .none, .none, .none, .none, .none]) (st_setP (P := fun k => ∃ (N : Net) (s : Nat → Rat), k = .im (netD N) ∧ Drawn N s) (ev_ixTF (ev_callW (av_consP (P1 := fun k => k = .wl) (P3 := fun ks => ∃ n : Nat, ks = [.im (.int ((n : Nat) : Int))] ∧ 0 < n ∧ n ≤ 4) (ev_var rfl rfl) (av_consP (P3 := fun ks => ks = []) (P1 := fun k => ∃ n : Nat, k = .im (.int ((n : Nat) : Int)) ∧ 0 < n ∧ n ≤ 4) ((ev_callWd (av_cons ((ev_var rfl rfl)) (av_cons (ev_tup (ds := [.int 2, .int 3, .int 4, .int 1, .int 3, .int 4]) (av_cons (ev_int) (av_cons (ev_int) (av_cons (ev_int) (av_cons (ev_int) (av_cons (ev_int) (av_cons (ev_int) av_nil))))))) av_nil)) (R_law_one.mk _ (by decide) (by decide))).to ?_) av_nil fun k ks ⟨n, e, hn⟩ e2 => ?_) fun k ks e ⟨n, e2, h1, h2⟩ => ?_))) fun k ⟨N, s, e, hd⟩ => ?_) ?_
    · rintro k ⟨d, hd, rfl⟩
      simp only [List.mem_cons, List.not_mem_nil, or_false] at hd
      rcases hd with rfl | rfl | rfl | rfl | rfl | rfl
      · exact ⟨2, rfl, by decide⟩
      · exact ⟨3, rfl, by decide⟩
      · exact ⟨4, rfl, by decide⟩
      · exact ⟨1, rfl, by decide⟩
      · exact ⟨3, rfl, by decide⟩
      · exact ⟨4, rfl, by decide⟩
    · subst e e2
      exact ⟨⟨n, rfl, hn⟩, .inl rfl⟩
    · subst e e2
      exact ⟨⟨_, R_law_scaled_net.mk n h1 h2, fun k z => z⟩, .inr rfl⟩
    · subst e
      exact ⟨rfl, N, s, hd, rfl⟩
    rintro Γ ⟨N, s, hd, rfl⟩
    obtain ⟨rs, h1, h2, h3, h4, h5⟩ := drawn_told hd
    generalize hc : (fun i => s i / s ((rs i).getD 0)) = c at h4 h5
    have h5 : ∀ i, 0 < c i := fun i => by
      have q := h5 i
      rw [← hc]
      exact q
    have hl := h4.ok.le
    have h16 := pow16 hl
    refine st_seq (Γ1 := [.par .wl, .im (netD N), .im (rowF N.n c), .none, .none, .none, .none]) (st_set (((ev_call (av_cons ((ev_var rfl rfl)) av_nil) (R_law_told_scales.mk N s rs h3 h1 h2))).as (k' := .im (rowF N.n c)) (by rw [← hc]))) ?_
    refine st_seq (Γ1 := [.par .wl, .im (netD N), .im (rowF N.n c), .ls (liftL N), .ls (stepsL N), .none, .none]) (st_parLs (ev_ls (ev_call (av_cons ((ev_var rfl rfl)) av_nil) (R_law_lifted.mk N h4.ok))) (ev_ls (ev_call (av_cons ((ev_var rfl rfl)) av_nil) (R_law_wishes.mk N h4.ok)))) ?_
    obtain ⟨k, hk⟩ : ∃ k : Nat → Nat, ∀ x, x < 2 ^ N.n → ∃ a, k x ≤ 2 ^ N.n ∧ Orb (next N) x (k x) a := ⟨fun x => if hx : x < 2 ^ N.n then (orb_ex (F := next N) (B := 2 ^ N.n) (fun a _ => next_lt N a) hx).choose else 0, fun x hx => by
      obtain ⟨a, z⟩ := (orb_ex (F := next N) (B := 2 ^ N.n) (fun a _ => next_lt N a) hx).choose_spec
      refine ⟨a, ?_⟩
      simp only [dif_pos hx]
      exact z⟩
    obtain ⟨a, ha⟩ : ∃ a : Nat → Nat, ∀ x, x < 2 ^ N.n → k x ≤ 2 ^ N.n ∧ Orb (next N) x (k x) (a x) := ⟨fun x => if hx : x < 2 ^ N.n then (hk x hx).choose else 0, fun x hx => by
      have z := (hk x hx).choose_spec
      simp only [dif_pos hx]
      exact z⟩
    generalize hk' : (fun x => if x < 2 ^ N.n then k x else 0) = k'
    have ek : ∀ x, x < 2 ^ N.n → k' x = k x := fun x hx => by
      rw [← hk']
      exact if_pos hx
    have kb : ∀ x, k' x ≤ 1000 := fun x => by
      by_cases hx : x < 2 ^ N.n
      · rw [ek x hx]
        have := (ha x hx).1
        omega
      · rw [← hk']
        show (if x < 2 ^ N.n then k x else 0) ≤ 1000
        rw [if_neg hx]
        exact Nat.zero_le _
    have ko : ∀ x, x < 2 ^ N.n → Orb (next N) x (k' x) (a x) := fun x hx => by
      rw [ek x hx]
      exact (ha x hx).2
    have bal : Bal N c := h4.bal
    refine st_seq (Γ1 := [.par .wl, .im (netD N), .im (rowF N.n c), .ls (liftL N), .ls (stepsL N), .none, .none]) (st_no ((tv_or (tv_not (b := true) (tv_B (ev_allB (ev_lcA (it_tup (ev_call (av_cons ((ev_var rfl rfl)) av_nil) (R_rings.mk N k' a h4.ok ko kb)) (dd := fun i => (given (2 ^ N.n) (ringF (next N) k' a) (ringD N.n (next N) k')).getD i .non) fun i hi => ?_) (dd := fun i => .bl true) (fun i hi => ?_) ?_ (by decide))))) fun _ => tv_not (tv_B (ev_call (av_cons ((ev_var rfl rfl)) (av_cons ((ev_var rfl rfl)) (av_cons ((ev_var rfl rfl)) (av_cons ((ev_var rfl rfl)) av_nil)))) (R_law_falls.mk N c h4.ok h4.cbd bal h5)))).as rfl) st_next) ?_
    · rw [List.getElem?_eq_getElem hi, List.getD_eq_getElem?_getD, List.getElem?_eq_getElem hi]
      rfl
    · have hm : (given (2 ^ N.n) (ringF (next N) k' a) (ringD N.n (next N) k')).getD i .non ∈ given (2 ^ N.n) (ringF (next N) k' a) (ringD N.n (next N) k') := by
        rw [List.getD_eq_getElem?_getD, List.getElem?_eq_getElem hi]
        exact List.getElem_mem hi
      obtain ⟨x, hx, hf, e⟩ := given_mem hm
      rw [e]
      have a0 : a x = 0 := of_decide_eq_true (Bool.and_eq_true_iff.mp hf).1
      have r2 := ring_two bal h5 h4.ok.pos hx (ko x hx)
      refine (ev_opB0 (ev_lenT (ev_var rfl rfl)) ev_int).as ?_
      rw [List.length_map, List.length_range, decide_eq_true (by omega)]
    · have := given_le (2 ^ N.n) (ringF (next N) k' a) (ringD N.n (next N) k')
      omega
    refine st_seqP (N1 := fun Γ => True) (st_forP (n := 3) (it_rngN (av_cons (ev_int) av_nil) (by decide)) (fun z => z) (fun i Γ => ∃ s5, Γ = [.par .wl, .im (netD N), .im (rowF N.n c), .ls (liftL N), .ls (stepsL N), s5, .none]) ⟨_, rfl⟩ ?_ fun _ _ => trivial) ?_
    · rintro i Γ hi ⟨s5, rfl⟩
      refine st_seq (Γ1 := [.par .wl, .im (netD N), .im (rowF N.n c), .ls (liftL N), .ls (stepsL N), .im (.int ((i : Nat) : Int)), .none]) (st_no ((tv_not (tv_B (ev_callWd (av_cons ((ev_var rfl rfl)) (av_cons ((ev_var rfl rfl)) (av_cons ((ev_var rfl rfl)) (av_cons ((ev_var rfl rfl)) av_nil)))) (R_law_is_level_right.mk N c h4 h5)))).as rfl) st_next) ?_
      exact st_no ((tv_not (tv_B (ev_callWd (av_cons ((ev_var rfl rfl)) (av_cons ((ev_var rfl rfl)) (av_cons ((ev_var rfl rfl)) (av_cons ((ev_var rfl rfl)) (av_cons ((ev_var rfl rfl)) av_nil))))) (R_law_is_bound_right.mk N c h4 h5)))).as rfl) (st_next.to (fun Γ e => ⟨_, e⟩) fun _ z => z)
    · rintro Γ -
      exact st_ret ev_bl rfl
end
end Hn
end

section
set_option Elab.async false
set_option linter.all false
set_option maxRecDepth 100000
set_option maxHeartbeats 1000000
namespace Hn
open PySem PySem.Spec PyProof.Rows L2 NdefX LamX HnQ
section
variable {P : Program} {w : World} {K : PySem.W.Frag} {mg : Str → Option Value} {base : Heap} {T : List NTab}
abbrev intL (ns : List Int) : List D := ns.map D.int
inductive R_law_well : List Kd → (Kd → Prop) → Prop
  | mk (ns : List Int) (lap : Nat) (h : lap ≤ 100) : R_law_well [.ls (intL ns), .im (.int ((lap : Nat) : Int))] (fun k => ∃ i j l : Int, k = .fl [.int i, .int j, .int l] ∧ 0 ≤ i ∧ 0 ≤ j ∧ 0 ≤ l)
theorem ev_mix {mo : Option Addr} {Γ : List Slot} {ta tb : TE} {a b c : Int} (ha : EvP K T mo ta Γ (IntP fun _ => True)) (hb : EvP K T mo tb Γ (IntP fun _ => True)) (h1 : -(2 ^ 64) < a ∧ a < 2 ^ 64) (h2 : -(2 ^ 64) < b ∧ b < 2 ^ 64) :
    EvP K T mo (tOp (rI (fun _ j => 0 < j) fun i j => .int (i % j)) (tCB rIntA (tCons (tOp (rI0 fun i j => .int (i + j)) (tOp (rI0 fun i j => .int (i + j)) (tOp (rI CMul fun i j => .int (i * j)) ta (tC (.int a))) (tOp (rI CMul fun i j => .int (i * j)) (tOp (rI (fun _ j => 0 < j) fun i j => .int (i % j)) (tCB rIntA (tCons tb tNil)) (tC (.int 2147483489))) (tC (.int b)))) (tC (.int c))) tNil)) (tC (.int 2147483489))) Γ (IntP (0 ≤ ·)) :=
  evi_op (p := fun _ => True) (q := fun j => j = 2147483489) (evi_int (evi_op0 (p := fun _ => True) (q := fun _ => True) (evi_op0 (p := fun _ => True) (q := fun _ => True) (evi_op (q := fun j => j = a) (r := fun _ => True) ha (evi_of ev_int rfl) fun i j _ h => ⟨.inr (by rw [h]; exact h1), trivial⟩) (evi_op (p := fun _ => True) (q := fun j => j = b) (r := fun _ => True) (evi_op (q := fun j => j = 2147483489) (r := fun _ => True) (evi_int hb) (evi_of ev_int rfl) fun i j _ h => ⟨by omega, trivial⟩) (evi_of ev_int rfl) fun i j _ h => ⟨.inr (by rw [h]; exact h2), trivial⟩) fun _ _ _ _ => trivial) (evi_of ev_int trivial) fun _ _ _ _ => trivial)) (evi_of ev_int rfl) fun i j _ h => ⟨by omega, by rw [h]; exact (mod_pos (by decide)).1⟩
theorem g_law_well (M : Mods K mg)  : GFn P w K mg base "_law_well" s_law_well ["_law_script", "_law_lap"] 1 (Prm K T none R_law_well) := by
  refine nf_of (T := T) M.f_law_well sc_law_well (fun ks k h => by cases h; rfl) (fun _ _ _ _ _ _ us hl => match us, hl with | [_, _], _ => rfl) fun f cdv A outer s H hr gd => ⟨_,
    (pss_cons (ps_set (i := 2) sc_law_well.nd rfl (.inl rfl) (pe_op op_add pe_int (pe_op op_mul pe_int (pv 1))))
      (pss_cons (ps_for PassesOwn.never rfl (pi_list (pe_slice sl_list (pv 0) po_none (po_some pe_int))) (pg_name (i := 3) sc_law_well.nd rfl (.inl rfl))
      (pss_one (ps_set (i := 2) sc_law_well.nd rfl (.inl rfl) (pe_op op_mod (pe_callTy c_int (by rfl) M.n_int PyProof.Rows.boot_int (pa_cons (pe_op op_add (pe_op op_add (pe_op op_mul (pv 2) pe_int) (pe_op op_mul (pe_op op_mod (pe_callTy c_int (by rfl) M.n_int PyProof.Rows.boot_int (pa_cons (pv 3) pa_nil)) pe_int) pe_int)) pe_int) pa_nil)) pe_int))))
      (pss_cons (ps_set (i := 4) sc_law_well.nd rfl (.inl rfl) (pe_ifExp (pt_cmpR op_lt (pv 1) (pe_callB (lenK (K := K) rfl) (by rfl) M.n_len PySem.boot_len (pa_cons (pv 0) pa_nil)) (nomark _)) (pe_callTy c_int (by rfl) M.n_int PyProof.Rows.boot_int (pa_cons (pe_ix (ixL (K := K) rfl) (pv 0) (pv 1) (fun _ _ => rfl)) pa_nil)) pe_int))
      (pss_cons (ps_set (i := 2) sc_law_well.nd rfl (.inl rfl) (pe_op op_mod (pe_callTy c_int (by rfl) M.n_int PyProof.Rows.boot_int (pa_cons (pe_op op_add (pe_op op_add (pe_op op_mul (pv 2) pe_int) (pe_op op_mul (pe_op op_mod (pe_callTy c_int (by rfl) M.n_int PyProof.Rows.boot_int (pa_cons (pv 4) pa_nil)) pe_int) pe_int)) pe_int) pa_nil)) pe_int))
      (pss_one (ps_ret (pe_lst (pa_cons (pe_ifExp (PW.pt (pw_or (pt_cmpR op_lt (pv 4) pe_int (nomark _)) (pw_or1 (pt_cmpR op_ge (pv 4) (pe_op op_pow pe_int pe_int) (nomark _))))) (pe_callB c_abs (by rfl) M.n_abs PyProof.Rows.boot_abs (pa_cons (pv 4) pa_nil)) pe_int) (pa_cons (pv 2) (pa_cons pe_int pa_nil)))))))))), fun ks R h => ?_⟩
  cases h with
  | mk ns lap hlap =>
    refine st_seqP (N1 := fun Γ => ∃ x : Int, Γ = [.par (.ls (intL ns)), .im (.int ((lap : Nat) : Int)), .im (.int x), .none, .none]) (st_setP (P := IntP fun _ => True) (evi_op0 (p := fun _ => True) (q := fun _ => True) (evi_of ev_int trivial) (evi_op (p := fun i => i = 7919) (q := fun _ => True) (evi_of ev_int rfl) (evi_of (ev_var rfl rfl) trivial) fun i j h _ => ⟨.inl (by omega), trivial⟩) fun _ _ _ _ => trivial) fun k ⟨x, e, _⟩ => by subst e; exact ⟨rfl, x, rfl⟩) ?_
    rintro Γ ⟨x, rfl⟩
    refine st_seqP (N1 := fun Γ => ∃ (x : Int) (s3 : Slot), Γ = [.par (.ls (intL ns)), .im (.int ((lap : Nat) : Int)), .im (.int x), s3, .none]) (st_forP (w := false) (it_lst (ev_ls (ev_slTo (n := 10) (ev_var rfl rfl) ev_int)) (dd := fun i => .int (ns.getD i 0)) fun i hi => ?_) (fun z => nomatch z) (fun i Γ => ∃ (x : Int) (s3 : Slot), Γ = [.par (.ls (intL ns)), .im (.int ((lap : Nat) : Int)), .im (.int x), s3, .none]) ⟨_, _, rfl⟩ ?_ (fun Γ h => h)).weak ?_
    · rw [List.length_take, List.length_map] at hi
      have h1 : i < ns.length := by omega
      rw [List.getElem?_take_of_lt (by omega), List.getElem?_map, List.getElem?_eq_getElem h1, List.getD_eq_getElem?_getD, List.getElem?_eq_getElem h1]
      rfl
    · rintro i Γ hi ⟨x, s3, rfl⟩
      exact st_setP (ev_mix (evi_of (ev_var rfl rfl) trivial) (evi_of (ev_var rfl rfl) trivial) (by decide) (by decide)) fun k ⟨y, e, _⟩ => by subst e; exact ⟨rfl, y, _, rfl⟩
    rintro Γ ⟨x, s3, rfl⟩
    refine st_seqP (N1 := fun Γ => ∃ o : Int, Γ = [.par (.ls (intL ns)), .im (.int ((lap : Nat) : Int)), .im (.int x), s3, .im (.int o)]) (st_setP (P := IntP fun _ => True) (ev_if (b := decide (lap < ns.length)) ((tv_test (ev_opB0 (ev_var rfl rfl) (ev_lenL (ev_var rfl rfl)))).as ?_) (fun z => ?_) fun _ => evi_of ev_int trivial) fun k ⟨y, e, _⟩ => by subst e; exact ⟨rfl, y, rfl⟩) ?_
    · rw [List.length_map, decide_eq_decide]
      omega
    · have h1 := of_decide_eq_true z
      exact evi_int (evi_of (i := ns[lap]) (ev_ixL (ev_var rfl rfl) (ev_var rfl rfl) (atI_nat (by rw [List.getElem?_map, List.getElem?_eq_getElem h1]; rfl))) trivial)
    rintro Γ ⟨o, rfl⟩
    refine st_seqP (N1 := fun Γ => ∃ x : Int, 0 ≤ x ∧ Γ = [.par (.ls (intL ns)), .im (.int ((lap : Nat) : Int)), .im (.int x), s3, .im (.int o)]) (st_setP (ev_mix (evi_of (ev_var rfl rfl) trivial) (evi_of (ev_var rfl rfl) trivial) (by decide) (by decide)) fun k ⟨y, e, hy⟩ => by subst e; exact ⟨rfl, y, hy, rfl⟩) ?_
    rintro Γ ⟨x, hx, rfl⟩
    by_cases hc : o < 0 ∨ o ≥ 10 ^ 14
    · refine st_ret (ev_lst (ds := [_, _, _]) (av_cons (ev_if (b := true) ((tv_or (tv_test (ev_opB0 (ev_var rfl rfl) ev_int)) fun _ => tv_test (ev_opB0 (ev_var rfl rfl) (ev_opI ev_int ev_int ⟨by decide, by decide, by decide⟩))).as ?_) (fun _ => ev_abs (ev_var rfl rfl)) fun z => nomatch z) (av_cons ((ev_var rfl rfl)) (av_cons (ev_int) av_nil)))) ⟨_, x, 0, rfl, ?_, hx, Int.le_refl _⟩
      · show (decide (o < 0) || decide (o ≥ 10 ^ (14 : Int).toNat)) = true
        rcases hc with h | h
        · rw [decide_eq_true h, Bool.true_or]
        · rw [decide_eq_true (show o ≥ 10 ^ (14 : Int).toNat from h), Bool.or_true]
      · omega
    · refine st_ret (ev_lst (ds := [_, _, _]) (av_cons (ev_if (b := false) ((tv_or (tv_test (ev_opB0 (ev_var rfl rfl) ev_int)) fun _ => tv_test (ev_opB0 (ev_var rfl rfl) (ev_opI ev_int ev_int ⟨by decide, by decide, by decide⟩))).as ?_) (fun z => nomatch z) fun _ => ev_int (i := 0)) (av_cons ((ev_var rfl rfl)) (av_cons (ev_int) av_nil)))) ⟨0, x, 0, rfl, Int.le_refl _, hx, Int.le_refl _⟩
      · show (decide (o < 0) || decide (o ≥ 10 ^ (14 : Int).toNat)) = false
        rw [decide_eq_false (fun h => hc (.inl h)), decide_eq_false (show ¬ o ≥ 10 ^ (14 : Int).toNat from fun h => hc (.inr h))]
        rfl
/-- what a callee with a new well does is not seen from before the well -/
theorem LeM.hide {a : Addr} {H H1 H2 : Hp} (e1 : LeM T none H H1) (ha : H a = none) (w : Wl (some a) H1) (e2 : LeM T (some a) H1 H2) : LeM T none H H2 := by
  refine ⟨fun b o _ h z => ?_, fun b o h => ?_, fun t => e2.tabs (e1.tabs t), fun _ b e => (nomatch e), e1.tup.trans e2.tup⟩
  · have hb : b ≠ a := ne_of_none h ha
    exact e2.keep b o (fun q => hb (Option.some.inj q).symm) (e1.keep b o (fun q => nomatch q) h z) z
  · obtain ⟨o', h'⟩ := e1.dom b o h
    exact e2.dom b o' h'
theorem ev_right {tw : TE} {Γ : List Slot} (h : EvP K T none tw Γ (fun k => ∃ i j l : Int, k = .fl [.int i, .int j, .int l] ∧ 0 ≤ i ∧ 0 ≤ j ∧ 0 ≤ l)) : Ev K T none (tCall (PrW K T R_law_right) [] E0 (tCons tw tNil)) Γ (.im (.bl true)) := fun H0 σ H Q E q =>
  h H0 σ H _ E fun v H1 k p e1 r1 => by
    obtain ⟨i, j, l, rfl, hi, hj, hl⟩ := p
    obtain ⟨a, xs, rfl, ha, hx, hr⟩ := r1
    have ex := RpA.ints (ns := [i, j, l]) hr
    subst ex
    have W : Wl (some a) H1 := fun b e => by
      cases e
      exact ⟨i, j, l, hi, hj, hl, hx⟩
    have E1 := E.on e1
    show PrW K T R_law_right ([.ref a] ++ []) H1 Q E0
    refine ⟨a, E1.tb, W, [.wl], _, .cons ⟨⟨a, rfl, rfl⟩, .inr rfl⟩ .nil, .mk, fun v' H2 k z e2 r2 => ?_⟩
    subst z
    exact q v' H2 _ rfl (e1.hide ha W e2) r2
inductive R_law : List Kd → Kd → Prop
  | mk (ns : List Int) : R_law [.ls (intL ns)] (.im (.bl true))
theorem g_law (M : Mods K mg) (FL : Fg K mg "law" s_law) (G_law_right : WFn P w K mg base T "_law_right" s_law_right ["_law_well_here"] 12 R_law_right) (G_law_well : GFn P w K mg base "_law_well" s_law_well ["_law_script", "_law_lap"] 1 (Prm K T none R_law_well)) : PFn P w K mg base T "law" s_law ["_law_script"] 13 R_law := by
  refine pf_of (T := T) FL sc_law (fun ks k h => by cases h; rfl) (fun _ _ _ _ _ _ us hl => match us, hl with | [_], _ => rfl) fun f cdv A outer s H hr gd => ⟨_,
    (pss_one (ps_ret (pe_callB (allK (K := K) rfl rfl) (by rfl) M.n_all PyProof.Rows.boot_all (pa_cons (pe_lc (own := [("_law_lap", 1)]) (g := gName 1) (tt := tYes) rfl sc_law.nd (pi_range1 (by rfl) M.n_range (pa_cons (pe_callB (c_max rfl) (by rfl) M.n_max PyProof.Rows.boot_max (pa_cons pe_int (pa_cons (pe_callB (c_min rfl) (by rfl) M.n_min PyProof.Rows.boot_min (pa_cons (pe_callB (lenK (K := K) rfl) (by rfl) M.n_len PySem.boot_len (pa_cons (pv 0) pa_nil)) (pa_cons pe_int pa_nil))) pa_nil))) pa_nil)) (blkOk_by (N := nm_law) (sc := defScope s_law) (by decide +kernel)) (fun _ _ _ _ _ => (pg_name (i := 1) sc_law.nd rfl (.inl rfl))) (fun _ _ _ _ _ => pts_nil) (fun _ _ _ _ _ => (pe_gf G_law_right hr (by decide) gd (by rfl) (pa_cons (pe_gf G_law_well hr (by decide) gd (by rfl) (pa_cons (pv 0) (pa_cons (pv 1) pa_nil))) pa_nil)))) pa_nil)))), fun ks k h => ?_⟩
  cases h with
  | mk ns =>
    obtain ⟨m, hm, hb⟩ : ∃ m : Nat, max (2 : Int) (min ((ns.length : Nat) : Int) 4) = m ∧ m ≤ 4 := ⟨(max (2 : Int) (min ((ns.length : Nat) : Int) 4)).toNat, by omega, by omega⟩
    exact st_ret (ev_allB (n := m) (ev_lcA (it_rngN (av_cons ((ev_max2 (av_cons (ev_int) (av_cons (ev_min2 (av_cons (ev_lenL (ev_var rfl rfl)) (av_cons (ev_int) av_nil))) av_nil))).as (k' := .im (.int ((m : Nat) : Int))) (by rw [List.length_map, hm])) av_nil) (by omega)) (fun i hi => ev_right (ev_callN (av_cons ((ev_var rfl rfl)) (av_cons ((ev_var rfl rfl)) av_nil)) (R_law_well.mk ns i (by omega)))) (by omega) (by decide))) rfl
end
end Hn
end

section
set_option Elab.async false
set_option linter.all false
set_option maxRecDepth 100000
set_option maxHeartbeats 1000000
namespace Hn
open PySem PySem.Spec PyProof.Rows L2 NdefX LamX HnQ
section
variable {P : Program} {w : World} {K : PySem.W.Frag} {mg : Str → Option Value} {base : Heap} {T : List NTab}
theorem own_two {Γ : List Slot} {ds : List D} {a0 a1 a3 a4 a5 a6 a7 a8 : Slot} (h : Γ = [a0, a1, .own ds, a3, a4, a5, a6, a7, a8]) (h0 : a0.isOwn = false) (h1 : a1.isOwn = false) (h3 : a3.isOwn = false) (h4 : a4.isOwn = false) (h5 : a5.isOwn = false) (h6 : a6.isOwn = false) (h7 : a7.isOwn = false) (h8 : a8.isOwn = false) :
    ∀ (z : Nat) s, Γ[z]? = some s → s.isOwn = true → z = 2 := by
  subst h
  intro z s hz ho
  match z, hz with
  | 0, hz => cases hz; rw [h0] at ho; cases ho
  | 1, hz => cases hz; rw [h1] at ho; cases ho
  | 2, _ => rfl
  | 3, hz => cases hz; rw [h3] at ho; cases ho
  | 4, hz => cases hz; rw [h4] at ho; cases ho
  | 5, hz => cases hz; rw [h5] at ho; cases ho
  | 6, hz => cases hz; rw [h6] at ho; cases ho
  | 7, hz => cases hz; rw [h7] at ho; cases ho
  | 8, hz => cases hz; rw [h8] at ho; cases ho
  | z + 9, hz => cases hz
/-- rows told by ties -/
structure Tied (n : Nat) (s : Nat → Rat) (f : Nat → Nat → Rat) : Prop where
  ex : ∃ t : Nat → Nat → Rat, (∀ x y, t x y = t y x) ∧ (∀ x y, f x y = t x y / s x) ∧ (∀ x y, Bd 20 6 (t x y)) ∧ (∀ x, t x x = 0) ∧ ∀ x y, n ≤ x → t x y = 0
theorem Tied.zero {n : Nat} {s : Nat → Rat} : Tied n s (fun _ _ => 0) := ⟨fun _ _ => 0, fun _ _ => rfl, fun _ _ => by rw [Rat.div_def, Rat.zero_mul], fun _ _ => Bd.zero.to, fun _ => rfl, fun _ _ _ => rfl⟩
theorem Tied.put {n : Nat} {s : Nat → Rat} {f : Nat → Nat → Rat} (h : Tied n s f) {i j : Nat} {q : Rat} (hi : i < n) (hj : j < i) (hq : Bd 20 6 q) :
    Tied n s (fun x y => if x = j ∧ y = i then q / s j else (if x = i ∧ y = j then q / s i else f x y)) := by
  obtain ⟨t, h1, h2, h3, h4, h5⟩ := h.ex
  refine ⟨fun x y => if (x = i ∧ y = j) ∨ (x = j ∧ y = i) then q else t x y, fun x y => ?_, fun x y => ?_, fun x y => ?_, fun x => ?_, fun x y hx => ?_⟩
  · by_cases c : (x = i ∧ y = j) ∨ (x = j ∧ y = i)
    · have c' : (y = i ∧ x = j) ∨ (y = j ∧ x = i) := by omega
      show (if _ then q else _) = if _ then q else _
      rw [if_pos c, if_pos c']
    · have c' : ¬ ((y = i ∧ x = j) ∨ (y = j ∧ x = i)) := by omega
      show (if _ then q else _) = if _ then q else _
      rw [if_neg c, if_neg c', h1]
  · show (if x = j ∧ y = i then q / s j else (if x = i ∧ y = j then q / s i else f x y)) = (if (x = i ∧ y = j) ∨ (x = j ∧ y = i) then q else t x y) / s x
    by_cases c1 : x = j ∧ y = i
    · rw [if_pos c1, if_pos (.inr c1), c1.1]
    · rw [if_neg c1]
      by_cases c2 : x = i ∧ y = j
      · rw [if_pos c2, if_pos (.inl c2), c2.1]
      · rw [if_neg c2, if_neg (by omega), h2]
  · show Bd 20 6 (if _ then q else _)
    split
    · exact hq
    · exact h3 x y
  · show (if (x = i ∧ x = j) ∨ (x = j ∧ x = i) then q else t x x) = 0
    rw [if_neg (by omega), h4]
  · show (if (x = i ∧ y = j) ∨ (x = j ∧ y = i) then q else t x y) = 0
    rw [if_neg (by omega), h5 x y hx]
structure Scl (s : Nat → Rat) : Prop where
  pos : ∀ i, 0 < s i
  bd : ∀ i, Bd 2 2 (s i)

theorem g_law_scaled_net (M : Mods K mg) (G_law_draw : WFn P w K mg base T "_law_draw" s_law_draw ["_law_well_here", "_law_few"] 1 R_law_draw) (G_law_one : WFn P w K mg base T "_law_one" s_law_one ["_law_well_here", "_law_some"] 2 R_law_one) (G_law_weight : WFn P w K mg base T "_law_weight" s_law_weight ["_law_well_here"] 3 R_law_weight) (G_law_over : PFn P w K mg base T "_law_over" s_law_over ["_law_x", "_law_y"] 2 R_law_over) (G_law_marks : WFn P w K mg base T "_law_marks" s_law_marks ["_law_well_here", "_law_few"] 4 R_law_marks) : WFn P w K mg base T "_law_scaled_net" s_law_scaled_net ["_law_well_here", "_law_few"] 5 R_law_scaled_net := by
  refine wf_of (T := T) M.f_law_scaled_net sc_law_scaled_net (fun ks k h => by cases h; rfl) (fun _ _ _ _ _ _ us hl => match us, hl with | [_, _], _ => rfl) fun f cdv A outer s H hr gd => ⟨_,
    (pss_cons (ps_par (i := 2) (j := 3) rfl sc_law_scaled_net.nd rfl rfl (by decide) rfl rfl (pa_cons (pe_lst pa_nil) (pa_cons (pe_lc (own := [("_law_at", 5)]) (g := gName 5) (tt := tYes) rfl sc_law_scaled_net.nd (pi_range1 (by rfl) M.n_range (pa_cons (pv 1) pa_nil)) (blkOk_by (N := nm_law_scaled_net) (sc := defScope s_law_scaled_net) (by decide +kernel)) (fun _ _ _ _ _ => (pg_name (i := 5) sc_law_scaled_net.nd rfl (.inl rfl))) (fun _ _ _ _ _ => pts_nil) (fun _ _ _ _ _ => (pe_op op_rep (pe_lst (pa_cons (pe_tup (pa_cons pe_int (pa_cons pe_int pa_nil))) pa_nil)) (pv 1)))) pa_nil)) (by rfl))
      (pss_cons (ps_set (i := 4) sc_law_scaled_net.nd rfl (.inl rfl) (pe_cmpR op_eq (pe_gf G_law_draw hr (by decide) gd (by rfl) (pa_cons (pv 0) (pa_cons pe_int pa_nil))) pe_int (nomark _)))
      (pss_cons (ps_for PassesOwn.never rfl (pi_range1 (by rfl) M.n_range (pa_cons (pv 1) pa_nil)) (pg_name (i := 5) sc_law_scaled_net.nd rfl (.inl rfl))
      (pss_one (ps_expr (pe_bm PySem.F.plainAttrs_list PySem.F.slot_list_append PySem.F.type_list_append mt_append (pv 2) (pa_cons (pe_ifExp (pt_val (pv 4)) (pe_tup (pa_cons pe_int (pa_cons pe_int pa_nil))) (pe_gf G_law_one hr (by decide) gd (by rfl) (pa_cons (pv 0) (pa_cons (pe_tup (pa_cons (pe_tup (pa_cons pe_int (pa_cons pe_int pa_nil))) (pa_cons (pe_tup (pa_cons pe_int (pa_cons pe_int pa_nil))) (pa_cons (pe_tup (pa_cons pe_int (pa_cons pe_int pa_nil))) (pa_cons (pe_tup (pa_cons pe_int (pa_cons pe_int pa_nil))) (pa_cons (pe_tup (pa_cons pe_int (pa_cons pe_int pa_nil))) pa_nil)))))) pa_nil)))) pa_nil)))))
      (pss_cons (ps_for PassesOwn.never rfl (pi_range1 (by rfl) M.n_range (pa_cons (pv 1) pa_nil)) (pg_name (i := 5) sc_law_scaled_net.nd rfl (.inl rfl))
      (pss_one (ps_for PassesOwn.never rfl (pi_range1 (by rfl) M.n_range (pa_cons (pv 5) pa_nil)) (pg_name (i := 6) sc_law_scaled_net.nd rfl (.inl rfl))
      (pss_cons (ps_set (i := 7) sc_law_scaled_net.nd rfl (.inl rfl) (pe_gf G_law_weight hr (by decide) gd (by rfl) (pa_cons (pv 0) pa_nil)))
      (pss_cons (ps_asg (pe_gf G_law_over hr (by decide) gd (by rfl) (pa_cons (pv 7) (pa_cons (pe_ix (ixL (K := K) rfl) (pv 2) (pv 5) (fun _ _ => rfl)) pa_nil))) (pg_sub (pe_ix (ixL (K := K) rfl) (pv 3) (pv 5) (fun _ _ => rfl)) (pv 6) set_list))
      (pss_one (ps_asg (pe_gf G_law_over hr (by decide) gd (by rfl) (pa_cons (pv 7) (pa_cons (pe_ix (ixL (K := K) rfl) (pv 2) (pv 6) (fun _ _ => rfl)) pa_nil))) (pg_sub (pe_ix (ixL (K := K) rfl) (pv 3) (pv 6) (fun _ _ => rfl)) (pv 5) set_list))))))))
      (pss_one (ps_ret (pe_tup (pa_cons (pe_tup (pa_cons (pe_callTy (tupK (K := K) rfl) (by rfl) M.n_tuple PyProof.Rows.boot_tuple (pa_cons (pe_lc (own := [("_law_row", 8)]) (g := gName 8) (tt := tYes) rfl sc_law_scaled_net.nd (pi_list (pv 3)) (blkOk_by (N := nm_law_scaled_net) (sc := defScope s_law_scaled_net) (by decide +kernel)) (fun _ _ _ _ _ => (pg_name (i := 8) sc_law_scaled_net.nd rfl (.inl rfl))) (fun _ _ _ _ _ => pts_nil) (fun _ _ _ _ _ => (pe_callTy (tupK (K := K) rfl) (by rfl) M.n_tuple PyProof.Rows.boot_tuple (pa_cons (pv 8) pa_nil)))) pa_nil)) (pa_cons (pe_gf G_law_marks hr (by decide) gd (by rfl) (pa_cons (pv 0) (pa_cons (pv 1) pa_nil))) pa_nil))) (pa_cons (pe_callTy (tupK (K := K) rfl) (by rfl) M.n_tuple PyProof.Rows.boot_tuple (pa_cons (pv 2) pa_nil)) pa_nil))))))))), fun a ks R h => ?_⟩
  cases h with
  | mk n h0 hn =>
    intro H0 σ H D E q1 q2
    refine st_rows (n := n) (Γ := [.par .wl, .im (.int ((n : Nat) : Int)), .none, .none, .none, .none, .none, .none, .none]) (by omega) (fun Γ' e i => ?_) (av_cons ((ev_var rfl rfl)) av_nil) (show 3 < 9 from by decide) E fun σ1 H1 E1 W1 t1 => ?_
    · subst e
      exact ev_rep (ev_lst (ds := [fr 0]) (av_cons (ev_lit (q := 0) ev_int ev_int rfl rfl) av_nil)) (ev_var rfl rfl) (by omega)
    refine (stw_seq (N1 := fun Γ f => f = (fun _ _ => 0) ∧ ∃ b, Γ = [.par .wl, .im (.int ((n : Nat) : Int)), .own [], .none, .im (.bl b), .none, .none, .none, .none]) (stw_set (i := 4) (by decide) (P := fun k => ∃ b, k = .im (.bl b)) (ev_opP (P2 := fun k => k = .im (.int 0)) (ev_callWd (av_cons ((ev_var rfl rfl)) (av_cons (ev_int) av_nil)) (R_law_draw.mk 2 (by decide) (by decide))) ev_int fun k1 k2 ⟨i, e1, p1⟩ e2 => ⟨.int i, .int 0, e1, e2, fun H x y Q r1 r2 z => by
      cases r1
      cases r2
      exact ⟨rfl, z (.bl (decide (V.int i = V.int 0))) (.im (.bl _)) ⟨_, rfl⟩ (.bl _) rfl⟩⟩) fun k ⟨b, e⟩ => ⟨_, e, rfl, b, rfl⟩) fun Γ f e => ?_) H0 σ1 H1 D E1 W1 (fun Γ f σ' H' (z : False) => z.elim) q2
    obtain ⟨rfl, b, rfl⟩ := e
    refine stw_seq (N1 := fun Γ f => f = (fun _ _ => 0) ∧ ∃ (s : Nat → Rat) (s5 : Slot), Scl s ∧ Sim s5 ∧ Γ = [.par .wl, .im (.int ((n : Nat) : Int)), .own ((List.range n).map fun i => fr (s i)), .none, .im (.bl b), s5, .none, .none, .none])
      (stw_for (m := n) (j := 5) (by decide) (it_rngN (av_cons ((ev_var rfl rfl)) av_nil) (by omega)) (fun i Γ f => f = (fun _ _ => 0) ∧ ∃ (s : Nat → Rat) (s5 : Slot), Scl s ∧ Sim s5 ∧ Γ = [.par .wl, .im (.int ((n : Nat) : Int)), .own ((List.range i).map fun i => fr (s i)), .none, .im (.bl b), s5, .none, .none, .none]) ⟨rfl, fun _ => 1, .none, ⟨fun _ => by decide, fun _ => Bd.one.to⟩, .inl rfl, rfl⟩ ?_ fun _ _ h => h) fun Γ f e => ?_
    · rintro i Γ f hi ⟨rfl, s, s5, hs, h5, rfl⟩
      refine stw_app (d0 := 0) (P := fun k => ∃ q, k = .im (fr q) ∧ 0 < q ∧ Bd 2 2 q) rfl (by rw [List.length_map, List.length_range]; omega) (ev_if (b := b) (tv_B (ev_var rfl rfl)) (fun _ => EvP.of (p := fun k => ∃ q, k = .im (fr q) ∧ 0 < q ∧ Bd 2 2 q) (ev_lit (q := 1) ev_int ev_int rfl rfl) ⟨1, rfl, by decide, Bd.one.to⟩) fun _ => (ev_callWd (av_cons ((ev_var rfl rfl)) (av_cons (ev_tup (ds := [fr 1, fr 2, fr (1 / 2), fr 3, fr (2 / 3)]) (av_cons (ev_lit ev_int ev_int rfl rfl) (av_cons (ev_lit ev_int ev_int rfl rfl) (av_cons (ev_lit ev_int ev_int half_num half_den) (av_cons (ev_lit ev_int ev_int rfl rfl) (av_cons (ev_lit ev_int ev_int (by decide +kernel) (by decide +kernel)) av_nil)))))) av_nil)) (R_law_one.mk _ (by decide) (by decide))).to ?_) fun k ⟨q, e, hq1, hq2⟩ => ?_
      · rintro k ⟨d, hd, rfl⟩
        simp only [List.mem_cons, List.not_mem_nil, or_false] at hd
        rcases hd with rfl | rfl | rfl | rfl | rfl <;> exact ⟨_, rfl, by decide +kernel, ⟨by decide +kernel, by decide +kernel⟩⟩
      · subst e
        refine ⟨_, rfl, ?_⟩
        rw [row_snoc]
        refine ⟨rfl, fun j => if j = i then q else s j, .im (.int ((i : Nat) : Int)), ⟨fun j => ?_, fun j => ?_⟩, .inr ⟨_, rfl⟩, rfl⟩
        · show 0 < (if j = i then q else s j)
          split
          · exact hq1
          · exact hs.pos j
        · show Bd 2 2 (if j = i then q else s j)
          split
          · exact hq2
          · exact hs.bd j
    obtain ⟨rfl, s, s5, hs, h5, rfl⟩ := e
    have nz : ∀ i, s i ≠ 0 := fun i z => by
      have := hs.pos i
      rw [z] at this
      exact absurd this (by decide)
    refine stw_seq (N1 := fun Γ f => Tied n s f ∧ ∃ (s5 s6 s7 : Slot), Sim s5 ∧ Sim s6 ∧ Sim s7 ∧ Γ = [.par .wl, .im (.int ((n : Nat) : Int)), .own ((List.range n).map fun i => fr (s i)), .none, .im (.bl b), s5, s6, s7, .none])
      (stw_for (m := n) (j := 5) (by decide) (it_rngN (av_cons ((ev_var rfl rfl)) av_nil) (by omega)) (fun i Γ f => Tied n s f ∧ ∃ (s5 s6 s7 : Slot), Sim s5 ∧ Sim s6 ∧ Sim s7 ∧ Γ = [.par .wl, .im (.int ((n : Nat) : Int)), .own ((List.range n).map fun i => fr (s i)), .none, .im (.bl b), s5, s6, s7, .none]) ⟨.zero, s5, .none, .none, h5, .inl rfl, .inl rfl, rfl⟩ ?_ fun _ _ h => h) fun Γ f e => ?_
    · rintro i Γ f hi ⟨ht, s5, s6, s7, h5, h6, h7, rfl⟩
      refine stw_for (m := i) (j := 6) (by decide) (it_rngN (av_cons ((ev_var rfl rfl)) av_nil) (by omega)) (fun j Γ f => Tied n s f ∧ ∃ (s6 s7 : Slot), Sim s6 ∧ Sim s7 ∧ Γ = [.par .wl, .im (.int ((n : Nat) : Int)), .own ((List.range n).map fun i => fr (s i)), .none, .im (.bl b), .im (.int ((i : Nat) : Int)), s6, s7, .none]) ⟨ht, s6, s7, h6, h7, rfl⟩ ?_ fun Γ f ⟨ht, s6, s7, h6, h7, e⟩ => ⟨ht, _, s6, s7, .inr ⟨_, rfl⟩, h6, h7, e⟩
      rintro j Γ f hj ⟨ht, s6, s7, h6, h7, rfl⟩
      have hjn : j < n := by omega
      refine stw_seq (N1 := fun Γ f' => f' = f ∧ ∃ q, Bd 20 6 q ∧ Γ = [.par .wl, .im (.int ((n : Nat) : Int)), .own ((List.range n).map fun i => fr (s i)), .none, .im (.bl b), .im (.int ((i : Nat) : Int)), .im (.int ((j : Nat) : Int)), .im (fr q), .none]) (stw_set (i := 7) (by decide) (ev_callWd (av_cons ((ev_var rfl rfl)) av_nil) R_law_weight.mk) fun k ⟨q, e, hq⟩ => ⟨_, e, rfl, q, hq, rfl⟩) fun Γ f' e => ?_
      obtain ⟨rfl, q, hq, rfl⟩ := e
      refine stw_seq (stw_row (i := i) (j := j) (q := q / s i) hi hjn (ev_call (av_cons ((ev_var rfl rfl)) (av_cons (ev_ixL (ev_var rfl rfl) (ev_var rfl rfl) (at_row hi)) av_nil)) (R_law_over.mk q (s i) hq.to (hs.bd i).to (nz i))) (ev_var rfl rfl) (ev_var rfl rfl) rfl rfl (own_two rfl rfl rfl rfl rfl rfl rfl rfl rfl)) fun Γ f' e => ?_
      obtain ⟨rfl, rfl⟩ := e
      refine fun H0 σ H D E W q1 q2 => stw_row (i := j) (j := i) (q := q / s j) hjn hi (ev_call (av_cons ((ev_var rfl rfl)) (av_cons (ev_ixL (ev_var rfl rfl) (ev_var rfl rfl) (at_row hjn)) av_nil)) (R_law_over.mk q (s j) hq.to (hs.bd j).to (nz j))) (ev_var rfl rfl) (ev_var rfl rfl) rfl rfl (own_two rfl rfl rfl rfl rfl rfl rfl rfl rfl) H0 σ H D E W (fun Γ' f' σ' H' z => q1 Γ' f' σ' H' ?_) q2
      obtain ⟨rfl, rfl⟩ := z
      exact ⟨ht.put hi hj hq, _, _, .inr ⟨_, rfl⟩, .inr ⟨_, rfl⟩, rfl⟩
    obtain ⟨ht, s5, s6, s7, h5, h6, h7, rfl⟩ := e
    intro H0 σ H D E W q1 q2
    show (tTup _) σ H _
    refine rows_tup (by omega) E W (show 8 < 9 from by decide) fun v1 G1 e1 r1 => ?_
    refine ev_callWd (av_cons ((ev_var rfl rfl)) (av_cons ((ev_var rfl rfl)) av_nil)) (R_law_marks.mk n hn) H0 σ G1 _ (E.on e1) fun v2 G2 k2 p2 e2 r2 => ?_
    obtain ⟨M, rfl, hM⟩ := p2
    refine ⟨by rw [PySem.sizeLine_eq]; exact Nat.le_of_ble_eq_true rfl, fun l1 hl1 => ?_⟩
    have e12 := e1.trans e2
    have e3 : LeM T (some a) G2 _ := LeM.new (o := .tup [v1, v2]) hl1
    refine ev_tupL (ds := (List.range n).map fun i => fr (s i)) (ev_var rfl rfl) H0 σ _ _ ((E.on e12).on e3) fun v4 G4 k4 p4 e4 r4 => ?_
    subst p4
    refine ⟨by rw [PySem.sizeLine_eq]; exact Nat.le_of_ble_eq_true rfl, fun l2 hl2 => ?_⟩
    have e5 : LeM T (some a) G4 _ := LeM.new (o := .tup [.ref l1, v4]) hl2
    have all := ((e12.trans e3).trans e4).trans e5
    obtain ⟨t, t1, t2, t3, t4, t5⟩ := ht.ex
    refine q2 (.ref l2) _ _ ⟨⟨n, f, M⟩, s, rfl, ⟨⟨⟨h0, hn, fun i j => ?_⟩, hM, fun i => ?_⟩, fun i j ho => ?_, hs.pos, hs.bd, t, t1, t2⟩⟩ (E.le.trans all) ?_
    · show Bd 22 8 (f i j)
      rw [t2]
      exact ((t3 i j).div (hs.bd i) (nz i)).to
    · show f i i = 0
      rw [t2, t4, Rat.div_def, Rat.zero_mul]
    · show f i j = 0
      have z : t i j = 0 := by
        rcases ho with z | z
        · exact t5 i j (Nat.le_of_not_lt z)
        · rw [t1]
          exact t5 j i (Nat.le_of_not_lt z)
      rw [t2, z, Rat.div_def, Rat.zero_mul]
    · refine Rp.tup (.inl (.inl upd_same)) (.cons ?_ (.cons (Rp.mono e5.tup r4) .nil))
      have h1 : Rp K _ (.ref l1) (.tup [rowD n fun i => .tup (rowR n (f i)), rowF n M]) := Rp.tup (.inl (.inl upd_same)) (.cons ((Rp.mono e2.tup r1).mono e3.tup) (.cons (Rp.mono e3.tup r2) .nil))
      exact (Rp.mono e4.tup h1).mono e5.tup
end
end Hn
end

section
set_option Elab.async false
set_option linter.all false
set_option maxRecDepth 100000
set_option maxHeartbeats 4000000
/-! the join (printed by gen_fin.py) -/
namespace Hn
open PySem PySem.Spec PyProof.Rows L2 NdefX LamX HnQ
theorem fun_of {K : PySem.W.Frag} {x : Str} {st : Stmt} {f : Addr} {fd : FuncData} (F : FunD K x x (defArgs st) (defBody st) (defScope st) [] [] f fd) : Fun K x x st f fd := by
  obtain ⟨oc, od, dV, kV, doc, pm, an, cdv, ct, osl, he, look, code, dv, kv⟩ := F.ex
  have e : dV = .none := by
    rcases dv with ⟨_, e⟩ | ⟨e, _⟩
    · exact e
    · exact absurd rfl e
  subst e
  exact ⟨⟨oc, od, kV, doc, pm, an, cdv, ct, osl, he, look, code⟩, F.kp⟩
section
variable {K : PySem.W.Frag} {h : Heap} {mg : Str → Option Value} {w : World}
theorem fg_of (X : K.In h) (G : h.Ns mainGlobals mg) {x : Str} {st : Stmt} {fd : FuncData} (F : FunD K x x (defArgs st) (defBody st) (defScope st) [] [] (He.fAd K (x, none)) fd) (c : (He.Fa.glo x).ok K = true) : Fg K mg x st :=
  ⟨_, fd, He.glo_ok X G c, fun_of F⟩
theorem tup_of {x : Str} {a b : Int} {q : Rat} (h1 : He.tupB K x [.int a, .int b] = true) (h2 : q.num = a) (h3 : (q.den : Int) = b) (H : Hp) : Rp K H (.ref (He.ga K x)) (fr q) := by
  subst h2 h3
  exact .tup (He.tupB_ok h1 H) (.cons (.int _) (.cons (.int _) .nil))
theorem lam_of (X : K.In h) (G : h.Ns mainGlobals mg) {x : Str} {st : Stmt} {base : Heap} {T : List NTab} {fd : FuncData} (F : FunD K x x (defArgs st) (defBody st) (defScope st) [] [] (He.fAd K (x, none)) fd) (c : (He.Fa.glo x).ok K = true)
    (tb : TabB base mg (He.cT K (x, none)).1 (He.cT K (x, none)).2) (hm : ((He.cT K (x, none)).2, fun _ _ => x ++ ".<locals>.<lambda>") ∈ T) (hu : ∀ p ∈ T, p.1 = (He.cT K (x, none)).2 → p.2 = fun _ _ => x ++ ".<locals>.<lambda>") : LamAt K mg base T x st := by
  have F2 := fun_of F
  obtain ⟨oc, od, kV, doc, pm, an, cdv, ct, osl, he, look, code⟩ := F2.ex
  obtain ⟨cc, rfl⟩ := He.codeIn_ref code
  have e : He.codeOf K (x, none) = cc := He.codeOf_eq look (by rw [he])
  have e1 : (He.cT K (x, none)).1 = cc := e
  rw [e1] at tb
  exact ⟨cc, _, ⟨_, fd, He.glo_ok X G c, F2, oc, od, kV, doc, pm, an, ct, osl, he, look, code⟩, tb, hm, hu⟩
theorem mods_of (X : K.In h) (G : h.Ns mainGlobals mg) (c : He.SaysX hfacts hdefs [] htabs hex w h K) : Mods K mg := by
  have d := c.t.d
  have x := c.more
  unfold hex at x
  obtain ⟨x1, x⟩ := He.ba x
  obtain ⟨x2, x⟩ := He.ba x
  obtain ⟨x34, _⟩ := He.ba x
  obtain ⟨x3, x4⟩ := He.ba x34
  refine {
    n_abs := He.free_ok X G (d.fact 79 (f := .free "abs") rfl)
    n_all := He.free_ok X G (d.fact 80 (f := .free "all") rfl)
    n_bool := He.free_ok X G (d.fact 81 (f := .free "bool") rfl)
    n_divmod := He.free_ok X G (d.fact 82 (f := .free "divmod") rfl)
    n_enumerate := He.free_ok X G (d.fact 83 (f := .free "enumerate") rfl)
    n_int := He.free_ok X G (d.fact 84 (f := .free "int") rfl)
    n_isinstance := He.free_ok X G (d.fact 85 (f := .free "isinstance") rfl)
    n_len := He.free_ok X G (d.fact 86 (f := .free "len") rfl)
    n_max := He.free_ok X G (d.fact 87 (f := .free "max") rfl)
    n_min := He.free_ok X G (d.fact 88 (f := .free "min") rfl)
    n_range := He.free_ok X G (d.fact 89 (f := .free "range") rfl)
    n_repr := He.free_ok X G (d.fact 90 (f := .free "repr") rfl)
    n_sum := He.free_ok X G (d.fact 91 (f := .free "sum") rfl)
    n_tuple := He.free_ok X G (d.fact 92 (f := .free "tuple") rfl)
    n_zip := He.free_ok X G (d.fact 93 (f := .free "zip") rfl)
    n_gcd := PySem.W.mg_of X G (He.eqO_ok x4)
    ZERO := ⟨_, He.glo_ok X G (d.fact 76 (f := .glo "ZERO") rfl), tup_of x1 rfl rfl⟩
    ONE := ⟨_, He.glo_ok X G (d.fact 77 (f := .glo "ONE") rfl), tup_of x2 rfl rfl⟩
    HALF := ⟨_, He.glo_ok X G (d.fact 78 (f := .glo "HALF") rfl), tup_of x3 half_num half_den⟩
    MOST_CELLS := He.int_ok X G (d.fact 94 (f := .int "MOST_CELLS" 8) rfl)
    f_is_whole := (d.def_ 0 (d := dD "is_whole" s_is_whole) rfl).elim fun _ F => fg_of X G F (d.fact 0 (f := .glo "is_whole") rfl)
    f_is_between := (d.def_ 1 (d := dD "is_between" s_is_between) rfl).elim fun _ F => fg_of X G F (d.fact 1 (f := .glo "is_between") rfl)
    f_is_tuple_of := (d.def_ 2 (d := dD "is_tuple_of" s_is_tuple_of) rfl).elim fun _ F => fg_of X G F (d.fact 2 (f := .glo "is_tuple_of") rfl)
    f_is_ratio := (d.def_ 3 (d := dD "is_ratio" s_is_ratio) rfl).elim fun _ F => fg_of X G F (d.fact 3 (f := .glo "is_ratio") rfl)
    f_ratio := (d.def_ 4 (d := dD "ratio" s_ratio) rfl).elim fun _ F => fg_of X G F (d.fact 4 (f := .glo "ratio") rfl)
    f_plus := (d.def_ 5 (d := dD "plus" s_plus) rfl).elim fun _ F => fg_of X G F (d.fact 5 (f := .glo "plus") rfl)
    f_minus := (d.def_ 6 (d := dD "minus" s_minus) rfl).elim fun _ F => fg_of X G F (d.fact 6 (f := .glo "minus") rfl)
    f_times := (d.def_ 7 (d := dD "times" s_times) rfl).elim fun _ F => fg_of X G F (d.fact 7 (f := .glo "times") rfl)
    f_over := (d.def_ 8 (d := dD "over" s_over) rfl).elim fun _ F => fg_of X G F (d.fact 8 (f := .glo "over") rfl)
    f_sign_of := (d.def_ 9 (d := dD "sign_of" s_sign_of) rfl).elim fun _ F => fg_of X G F (d.fact 9 (f := .glo "sign_of") rfl)
    f_is_less := (d.def_ 10 (d := dD "is_less" s_is_less) rfl).elim fun _ F => fg_of X G F (d.fact 10 (f := .glo "is_less") rfl)
    f_total := (d.def_ 11 (d := dD "total" s_total) rfl).elim fun _ F => fg_of X G F (d.fact 11 (f := .glo "total") rfl)
    f_least_of := (d.def_ 12 (d := dD "least_of" s_least_of) rfl).elim fun _ F => fg_of X G F (d.fact 12 (f := .glo "least_of") rfl)
    f_is_row := (d.def_ 13 (d := dD "is_row" s_is_row) rfl).elim fun _ F => fg_of X G F (d.fact 13 (f := .glo "is_row") rfl)
    f_is_net_by := (d.def_ 14 (d := dD "is_net_by" s_is_net_by) rfl).elim fun _ F => fg_of X G F (d.fact 14 (f := .glo "is_net_by") rfl)
    f_many_cells := (d.def_ 15 (d := dD "many_cells" s_many_cells) rfl).elim fun _ F => fg_of X G F (d.fact 15 (f := .glo "many_cells") rfl)
    f_is_state_by := (d.def_ 16 (d := dD "is_state_by" s_is_state_by) rfl).elim fun _ F => fg_of X G F (d.fact 16 (f := .glo "is_state_by") rfl)
    f_number_by := (d.def_ 17 (d := dD "number_by" s_number_by) rfl).elim fun _ F => fg_of X G F (d.fact 17 (f := .glo "number_by") rfl)
    f_state_by := (d.def_ 18 (d := dD "state_by" s_state_by) rfl).elim fun _ F => fg_of X G F (d.fact 18 (f := .glo "state_by") rfl)
    f_all_states := (d.def_ 19 (d := dD "all_states" s_all_states) rfl).elim fun _ F => fg_of X G F (d.fact 19 (f := .glo "all_states") rfl)
    f_heard_by := (d.def_ 20 (d := dD "heard_by" s_heard_by) rfl).elim fun _ F => fg_of X G F (d.fact 20 (f := .glo "heard_by") rfl)
    f_wanted_by := (d.def_ 21 (d := dD "wanted_by" s_wanted_by) rfl).elim fun _ F => fg_of X G F (d.fact 21 (f := .glo "wanted_by") rfl)
    f_is_pair_against := (d.def_ 22 (d := dD "is_pair_against" s_is_pair_against) rfl).elim fun _ F => fg_of X G F (d.fact 22 (f := .glo "is_pair_against") rfl)
    f_pair_against := (d.def_ 23 (d := dD "pair_against" s_pair_against) rfl).elim fun _ F => fg_of X G F (d.fact 23 (f := .glo "pair_against") rfl)
    f_next_cells := (d.def_ 24 (d := dD "next_cells" s_next_cells) rfl).elim fun _ F => fg_of X G F (d.fact 24 (f := .glo "next_cells") rfl)
    f_grown_tree := (d.def_ 25 (d := dD "grown_tree" s_grown_tree) rfl).elim fun _ F => fg_of X G F (d.fact 25 (f := .glo "grown_tree") rfl)
    f_scale_along := (d.def_ 26 (d := dD "scale_along" s_scale_along) rfl).elim fun _ F => fg_of X G F (d.fact 26 (f := .glo "scale_along") rfl)
    f_ring_of := (d.def_ 27 (d := dD "ring_of" s_ring_of) rfl).elim fun _ F => fg_of X G F (d.fact 27 (f := .glo "ring_of") rfl)
    f_scales_or_against_by := (d.def_ 28 (d := dD "scales_or_against_by" s_scales_or_against_by) rfl).elim fun _ F => fg_of X G F (d.fact 28 (f := .glo "scales_or_against_by") rfl)
    f_check_net := (d.def_ 29 (d := dD "check_net" s_check_net) rfl).elim fun _ F => fg_of X G F (d.fact 29 (f := .glo "check_net") rfl)
    f_check_state := (d.def_ 30 (d := dD "check_state" s_check_state) rfl).elim fun _ F => fg_of X G F (d.fact 30 (f := .glo "check_state") rfl)
    f_check_both := (d.def_ 31 (d := dD "check_both" s_check_both) rfl).elim fun _ F => fg_of X G F (d.fact 31 (f := .glo "check_both") rfl)
    f_scales_for := (d.def_ 32 (d := dD "scales_for" s_scales_for) rfl).elim fun _ F => fg_of X G F (d.fact 32 (f := .glo "scales_for") rfl)
    f_spare_by := (d.def_ 33 (d := dD "spare_by" s_spare_by) rfl).elim fun _ F => fg_of X G F (d.fact 33 (f := .glo "spare_by") rfl)
    f_step_by := (d.def_ 34 (d := dD "step_by" s_step_by) rfl).elim fun _ F => fg_of X G F (d.fact 34 (f := .glo "step_by") rfl)
    f_lifted_by := (d.def_ 35 (d := dD "lifted_by" s_lifted_by) rfl).elim fun _ F => fg_of X G F (d.fact 35 (f := .glo "lifted_by") rfl)
    f_drop_by := (d.def_ 36 (d := dD "drop_by" s_drop_by) rfl).elim fun _ F => fg_of X G F (d.fact 36 (f := .glo "drop_by") rfl)
    f_check_states := (d.def_ 37 (d := dD "check_states" s_check_states) rfl).elim fun _ F => fg_of X G F (d.fact 37 (f := .glo "check_states") rfl)
    f_run_by := (d.def_ 38 (d := dD "run_by" s_run_by) rfl).elim fun _ F => fg_of X G F (d.fact 38 (f := .glo "run_by") rfl)
    f_at_once_by := (d.def_ 39 (d := dD "at_once_by" s_at_once_by) rfl).elim fun _ F => fg_of X G F (d.fact 39 (f := .glo "at_once_by") rfl)
    f_rings_by := (d.def_ 40 (d := dD "rings_by" s_rings_by) rfl).elim fun _ F => fg_of X G F (d.fact 40 (f := .glo "rings_by") rfl)
    f_marks_of := (d.def_ 41 (d := dD "marks_of" s_marks_of) rfl).elim fun _ F => fg_of X G F (d.fact 41 (f := .glo "marks_of") rfl)
    f_level_of := (d.def_ 42 (d := dD "level_of" s_level_of) rfl).elim fun _ F => fg_of X G F (d.fact 42 (f := .glo "level_of") rfl)
    f_next_level := (d.def_ 43 (d := dD "next_level" s_next_level) rfl).elim fun _ F => fg_of X G F (d.fact 43 (f := .glo "next_level") rfl)
    f_most_steps_by := (d.def_ 44 (d := dD "most_steps_by" s_most_steps_by) rfl).elim fun _ F => fg_of X G F (d.fact 44 (f := .glo "most_steps_by") rfl)
    f_run := (d.def_ 45 (d := dD "run" s_run) rfl).elim fun _ F => fg_of X G F (d.fact 45 (f := .glo "run") rfl)
    f_rings := (d.def_ 46 (d := dD "rings" s_rings) rfl).elim fun _ F => fg_of X G F (d.fact 46 (f := .glo "rings") rfl)
    f_level := (d.def_ 47 (d := dD "level" s_level) rfl).elim fun _ F => fg_of X G F (d.fact 47 (f := .glo "level") rfl)
    f_most_steps := (d.def_ 48 (d := dD "most_steps" s_most_steps) rfl).elim fun _ F => fg_of X G F (d.fact 48 (f := .glo "most_steps") rfl)
    f_law_well := (d.def_ 49 (d := dD "_law_well" s_law_well) rfl).elim fun _ F => fg_of X G F (d.fact 49 (f := .glo "_law_well") rfl)
    f_law_draw := (d.def_ 50 (d := dD "_law_draw" s_law_draw) rfl).elim fun _ F => fg_of X G F (d.fact 50 (f := .glo "_law_draw") rfl)
    f_law_one := (d.def_ 51 (d := dD "_law_one" s_law_one) rfl).elim fun _ F => fg_of X G F (d.fact 51 (f := .glo "_law_one") rfl)
    f_law_lean := (d.def_ 52 (d := dD "_law_lean" s_law_lean) rfl).elim fun _ F => fg_of X G F (d.fact 52 (f := .glo "_law_lean") rfl)
    f_law_plus := (d.def_ 53 (d := dD "_law_plus" s_law_plus) rfl).elim fun _ F => fg_of X G F (d.fact 53 (f := .glo "_law_plus") rfl)
    f_law_minus := (d.def_ 54 (d := dD "_law_minus" s_law_minus) rfl).elim fun _ F => fg_of X G F (d.fact 54 (f := .glo "_law_minus") rfl)
    f_law_times := (d.def_ 55 (d := dD "_law_times" s_law_times) rfl).elim fun _ F => fg_of X G F (d.fact 55 (f := .glo "_law_times") rfl)
    f_law_over := (d.def_ 56 (d := dD "_law_over" s_law_over) rfl).elim fun _ F => fg_of X G F (d.fact 56 (f := .glo "_law_over") rfl)
    f_law_below := (d.def_ 57 (d := dD "_law_below" s_law_below) rfl).elim fun _ F => fg_of X G F (d.fact 57 (f := .glo "_law_below") rfl)
    f_law_weight := (d.def_ 58 (d := dD "_law_weight" s_law_weight) rfl).elim fun _ F => fg_of X G F (d.fact 58 (f := .glo "_law_weight") rfl)
    f_law_marks := (d.def_ 59 (d := dD "_law_marks" s_law_marks) rfl).elim fun _ F => fg_of X G F (d.fact 59 (f := .glo "_law_marks") rfl)
    f_law_scaled_net := (d.def_ 60 (d := dD "_law_scaled_net" s_law_scaled_net) rfl).elim fun _ F => fg_of X G F (d.fact 60 (f := .glo "_law_scaled_net") rfl)
    f_law_as_state := (d.def_ 61 (d := dD "_law_as_state" s_law_as_state) rfl).elim fun _ F => fg_of X G F (d.fact 61 (f := .glo "_law_as_state") rfl)
    f_law_heard := (d.def_ 62 (d := dD "_law_heard" s_law_heard) rfl).elim fun _ F => fg_of X G F (d.fact 62 (f := .glo "_law_heard") rfl)
    f_law_wishes := (d.def_ 63 (d := dD "_law_wishes" s_law_wishes) rfl).elim fun _ F => fg_of X G F (d.fact 63 (f := .glo "_law_wishes") rfl)
    f_law_lifted := (d.def_ 64 (d := dD "_law_lifted" s_law_lifted) rfl).elim fun _ F => fg_of X G F (d.fact 64 (f := .glo "_law_lifted") rfl)
    f_law_drop := (d.def_ 65 (d := dD "_law_drop" s_law_drop) rfl).elim fun _ F => fg_of X G F (d.fact 65 (f := .glo "_law_drop") rfl)
    f_law_quotient := (d.def_ 66 (d := dD "_law_quotient" s_law_quotient) rfl).elim fun _ F => fg_of X G F (d.fact 66 (f := .glo "_law_quotient") rfl)
    f_law_tied := (d.def_ 67 (d := dD "_law_tied" s_law_tied) rfl).elim fun _ F => fg_of X G F (d.fact 67 (f := .glo "_law_tied") rfl)
    f_law_told_scales := (d.def_ 68 (d := dD "_law_told_scales" s_law_told_scales) rfl).elim fun _ F => fg_of X G F (d.fact 68 (f := .glo "_law_told_scales") rfl)
    f_law_level := (d.def_ 69 (d := dD "_law_level" s_law_level) rfl).elim fun _ F => fg_of X G F (d.fact 69 (f := .glo "_law_level") rfl)
    f_law_least_level := (d.def_ 70 (d := dD "_law_least_level" s_law_least_level) rfl).elim fun _ F => fg_of X G F (d.fact 70 (f := .glo "_law_least_level") rfl)
    f_law_falls := (d.def_ 71 (d := dD "_law_falls" s_law_falls) rfl).elim fun _ F => fg_of X G F (d.fact 71 (f := .glo "_law_falls") rfl)
    f_law_is_level_right := (d.def_ 72 (d := dD "_law_is_level_right" s_law_is_level_right) rfl).elim fun _ F => fg_of X G F (d.fact 72 (f := .glo "_law_is_level_right") rfl)
    f_law_is_bound_right := (d.def_ 73 (d := dD "_law_is_bound_right" s_law_is_bound_right) rfl).elim fun _ F => fg_of X G F (d.fact 73 (f := .glo "_law_is_bound_right") rfl)
    f_law_right := (d.def_ 74 (d := dD "_law_right" s_law_right) rfl).elim fun _ F => fg_of X G F (d.fact 74 (f := .glo "_law_right") rfl)
  }
theorem all_law {P : Program} {base : Heap} {T : List NTab} (M : Mods K mg) (FL : Fg K mg "law" s_law) (L1 : LamAt K mg base T "at_once_by" s_at_once_by) (L2 : LamAt K mg base T "rings_by" s_rings_by) : PFn P w K mg base T "law" s_law ["_law_script"] 13 R_law := by
  have g1_is_whole := g_is_whole (P := P) (w := w) (K := K) (mg := mg) (base := base) (T := T) M 
  have g1_is_tuple_of := g_is_tuple_of (P := P) (w := w) (K := K) (mg := mg) (base := base) (T := T) M 
  have g1_ratio := g_ratio (P := P) (w := w) (K := K) (mg := mg) (base := base) (T := T) M 
  have g1_sign_of := g_sign_of (P := P) (w := w) (K := K) (mg := mg) (base := base) (T := T) M 
  have g1_is_less := g_is_less (P := P) (w := w) (K := K) (mg := mg) (base := base) (T := T) M 
  have g1_many_cells := g_many_cells (P := P) (w := w) (K := K) (mg := mg) (base := base) (T := T) M 
  have g1_number_by := g_number_by (P := P) (w := w) (K := K) (mg := mg) (base := base) (T := T) M 
  have g1_state_by := g_state_by (P := P) (w := w) (K := K) (mg := mg) (base := base) (T := T) M 
  have g1_law_well := g_law_well (P := P) (w := w) (K := K) (mg := mg) (base := base) (T := T) M 
  have g1_law_draw := g_law_draw (P := P) (w := w) (K := K) (mg := mg) (base := base) (T := T) M 
  have g1_law_lean := g_law_lean (P := P) (w := w) (K := K) (mg := mg) (base := base) (T := T) M 
  have g1_law_below := g_law_below (P := P) (w := w) (K := K) (mg := mg) (base := base) (T := T) M 
  have g1_law_as_state := g_law_as_state (P := P) (w := w) (K := K) (mg := mg) (base := base) (T := T) M 
  have g1_is_between := g_is_between (P := P) (w := w) (K := K) (mg := mg) (base := base) (T := T) M g1_is_whole
  have g1_is_ratio := g_is_ratio (P := P) (w := w) (K := K) (mg := mg) (base := base) (T := T) M g1_is_whole g1_is_tuple_of
  have g1_plus := g_plus (P := P) (w := w) (K := K) (mg := mg) (base := base) (T := T) M g1_ratio
  have g1_minus := g_minus (P := P) (w := w) (K := K) (mg := mg) (base := base) (T := T) M g1_ratio
  have g1_times := g_times (P := P) (w := w) (K := K) (mg := mg) (base := base) (T := T) M g1_ratio
  have g1_over := g_over (P := P) (w := w) (K := K) (mg := mg) (base := base) (T := T) M g1_ratio
  have g1_least_of := g_least_of (P := P) (w := w) (K := K) (mg := mg) (base := base) (T := T) M g1_is_less
  have g1_all_states := g_all_states (P := P) (w := w) (K := K) (mg := mg) (base := base) (T := T) M g1_many_cells g1_state_by
  have g1_is_pair_against := g_is_pair_against (P := P) (w := w) (K := K) (mg := mg) (base := base) (T := T) M g1_sign_of
  have g1_next_cells := g_next_cells (P := P) (w := w) (K := K) (mg := mg) (base := base) (T := T) M g1_many_cells
  have g1_law_one := g_law_one (P := P) (w := w) (K := K) (mg := mg) (base := base) (T := T) M g1_law_draw
  have g1_law_plus := g_law_plus (P := P) (w := w) (K := K) (mg := mg) (base := base) (T := T) M g1_law_lean
  have g1_law_minus := g_law_minus (P := P) (w := w) (K := K) (mg := mg) (base := base) (T := T) M g1_law_lean
  have g1_law_times := g_law_times (P := P) (w := w) (K := K) (mg := mg) (base := base) (T := T) M g1_law_lean
  have g1_law_over := g_law_over (P := P) (w := w) (K := K) (mg := mg) (base := base) (T := T) M g1_law_lean
  have g1_total := g_total (P := P) (w := w) (K := K) (mg := mg) (base := base) (T := T) M g1_plus
  have g1_is_row := g_is_row (P := P) (w := w) (K := K) (mg := mg) (base := base) (T := T) M g1_is_ratio g1_is_tuple_of
  have g1_is_state_by := g_is_state_by (P := P) (w := w) (K := K) (mg := mg) (base := base) (T := T) M g1_is_between g1_is_tuple_of g1_many_cells
  have g1_pair_against := g_pair_against (P := P) (w := w) (K := K) (mg := mg) (base := base) (T := T) M g1_many_cells g1_is_pair_against
  have g1_grown_tree := g_grown_tree (P := P) (w := w) (K := K) (mg := mg) (base := base) (T := T) M g1_many_cells g1_next_cells
  have g1_scale_along := g_scale_along (P := P) (w := w) (K := K) (mg := mg) (base := base) (T := T) M g1_times g1_over
  have g1_law_weight := g_law_weight (P := P) (w := w) (K := K) (mg := mg) (base := base) (T := T) M g1_law_draw g1_law_lean g1_law_one
  have g1_law_heard := g_law_heard (P := P) (w := w) (K := K) (mg := mg) (base := base) (T := T) M g1_law_plus
  have g1_law_drop := g_law_drop (P := P) (w := w) (K := K) (mg := mg) (base := base) (T := T) M g1_law_times g1_law_below
  have g1_law_quotient := g_law_quotient (P := P) (w := w) (K := K) (mg := mg) (base := base) (T := T) M g1_law_over
  have g1_law_tied := g_law_tied (P := P) (w := w) (K := K) (mg := mg) (base := base) (T := T) M g1_law_over g1_law_times
  have g1_is_net_by := g_is_net_by (P := P) (w := w) (K := K) (mg := mg) (base := base) (T := T) M g1_is_tuple_of g1_is_row
  have g1_heard_by := g_heard_by (P := P) (w := w) (K := K) (mg := mg) (base := base) (T := T) M g1_total
  have g1_scales_or_against_by := g_scales_or_against_by (P := P) (w := w) (K := K) (mg := mg) (base := base) (T := T) M g1_pair_against g1_grown_tree g1_scale_along g1_many_cells g1_times
  have g1_check_state := g_check_state (P := P) (w := w) (K := K) (mg := mg) (base := base) (T := T) M g1_is_state_by
  have g1_marks_of := g_marks_of (P := P) (w := w) (K := K) (mg := mg) (base := base) (T := T) M g1_total g1_times
  have g1_law_marks := g_law_marks (P := P) (w := w) (K := K) (mg := mg) (base := base) (T := T) M g1_law_one g1_law_draw g1_law_weight
  have g1_law_wishes := g_law_wishes (P := P) (w := w) (K := K) (mg := mg) (base := base) (T := T) M g1_law_below g1_law_heard
  have g1_law_lifted := g_law_lifted (P := P) (w := w) (K := K) (mg := mg) (base := base) (T := T) M g1_law_minus g1_law_heard g1_law_below g1_law_times g1_law_plus
  have g1_law_told_scales := g_law_told_scales (P := P) (w := w) (K := K) (mg := mg) (base := base) (T := T) M g1_law_tied
  have g1_law_level := g_law_level (P := P) (w := w) (K := K) (mg := mg) (base := base) (T := T) M g1_law_times g1_law_minus g1_law_heard g1_law_plus
  have g1_law_least_level := g_law_least_level (P := P) (w := w) (K := K) (mg := mg) (base := base) (T := T) M g1_law_minus g1_law_heard g1_law_plus g1_law_times g1_law_below
  have g1_wanted_by := g_wanted_by (P := P) (w := w) (K := K) (mg := mg) (base := base) (T := T) M g1_many_cells g1_is_less g1_heard_by
  have g1_check_net := g_check_net (P := P) (w := w) (K := K) (mg := mg) (base := base) (T := T) M g1_is_net_by
  have g1_scales_for := g_scales_for (P := P) (w := w) (K := K) (mg := mg) (base := base) (T := T) M g1_scales_or_against_by
  have g1_spare_by := g_spare_by (P := P) (w := w) (K := K) (mg := mg) (base := base) (T := T) M g1_all_states g1_minus g1_heard_by g1_least_of
  have g1_level_of := g_level_of (P := P) (w := w) (K := K) (mg := mg) (base := base) (T := T) M g1_total g1_times g1_heard_by g1_minus g1_plus g1_marks_of
  have g1_law_scaled_net := g_law_scaled_net (P := P) (w := w) (K := K) (mg := mg) (base := base) (T := T) M g1_law_draw g1_law_one g1_law_weight g1_law_over g1_law_marks
  have g1_law_falls := g_law_falls (P := P) (w := w) (K := K) (mg := mg) (base := base) (T := T) M g1_law_drop g1_law_level g1_law_below g1_law_minus
  have g1_check_both := g_check_both (P := P) (w := w) (K := K) (mg := mg) (base := base) (T := T) M g1_check_net g1_check_state
  have g1_step_by := g_step_by (P := P) (w := w) (K := K) (mg := mg) (base := base) (T := T) M g1_spare_by g1_times
  have g1_rings_by := g_rings_by (P := P) (w := w) (K := K) (mg := mg) (base := base) (T := T) M L2 g1_wanted_by g1_number_by g1_all_states g1_state_by g1_many_cells
  have g1_lifted_by := g_lifted_by (P := P) (w := w) (K := K) (mg := mg) (base := base) (T := T) M g1_plus g1_step_by
  have g1_drop_by := g_drop_by (P := P) (w := w) (K := K) (mg := mg) (base := base) (T := T) M g1_least_of g1_many_cells g1_times g1_step_by
  have g1_check_states := g_check_states (P := P) (w := w) (K := K) (mg := mg) (base := base) (T := T) M g1_check_both g1_check_state
  have g1_rings := g_rings (P := P) (w := w) (K := K) (mg := mg) (base := base) (T := T) M g1_check_net g1_rings_by
  have g1_at_once_by := g_at_once_by (P := P) (w := w) (K := K) (mg := mg) (base := base) (T := T) M L1 g1_wanted_by
  have g1_next_level := g_next_level (P := P) (w := w) (K := K) (mg := mg) (base := base) (T := T) M g1_level_of g1_wanted_by g1_lifted_by
  have g1_level := g_level (P := P) (w := w) (K := K) (mg := mg) (base := base) (T := T) M g1_check_states g1_level_of g1_scales_for g1_lifted_by
  have g1_most_steps_by := g_most_steps_by (P := P) (w := w) (K := K) (mg := mg) (base := base) (T := T) M g1_lifted_by g1_least_of g1_all_states g1_level_of g1_wanted_by g1_over g1_drop_by g1_minus g1_next_level
  have g1_run := g_run (P := P) (w := w) (K := K) (mg := mg) (base := base) (T := T) M g1_check_both g1_at_once_by
  have g1_law_is_level_right := g_law_is_level_right (P := P) (w := w) (K := K) (mg := mg) (base := base) (T := T) M g1_law_draw g1_law_as_state g1_law_level g1_level
  have g1_most_steps := g_most_steps (P := P) (w := w) (K := K) (mg := mg) (base := base) (T := T) M g1_check_both g1_most_steps_by g1_scales_for
  have g1_law_is_bound_right := g_law_is_bound_right (P := P) (w := w) (K := K) (mg := mg) (base := base) (T := T) M g1_law_least_level g1_law_drop g1_law_draw g1_law_as_state g1_law_level g1_law_quotient g1_law_minus g1_most_steps g1_run
  have g1_law_right := g_law_right (P := P) (w := w) (K := K) (mg := mg) (base := base) (T := T) M g1_law_scaled_net g1_law_one g1_law_told_scales g1_law_wishes g1_law_lifted g1_law_falls g1_rings g1_law_is_level_right g1_law_is_bound_right
  have g1_law := g_law (P := P) (w := w) (K := K) (mg := mg) (base := base) (T := T) M FL g1_law_right g1_law_well
  exact g1_law
end
theorem law_walk : PySem.W.WalkO (PySem.W.view HR.prog [0, 95]) hnames (PySem.W.XL (PySem.W.view HR.prog [0, 95]) []) hhk.says HR.toRowW (HandSHeadRun.topDef HR.prog 95) [] (fun f vs => PySem.call f vs) := by
  refine Att.attach_callB (l := PySem.Challenge.rw_heednets_k12_whole_swings_where_scales_a) (n := 63) rfl (by kernel_rfl) fun w s₀ sA mg mb fa o pm cd doc a us ns G Y ho hd hcd hmg0 hobj hints hlen hbits hg => ?_
  obtain ⟨K, KX, c⟩ := Y
  have hmg : mg ("law" : PySem.Str) = some (.ref fa) := by
    have e : (HandSHeadRun.topDef HR.prog 95).name = ("law" : PySem.Str) := by kernel_rfl
    rw [← e]
    exact hmg0
  have d := c.t.d
  have M : Mods K mg := mods_of KX G.T.g c
  obtain ⟨fdL, FD⟩ := d.def_ 75 (d := dD "law" s_law) rfl
  have FL : Fg K mg "law" s_law := fg_of KX G.T.g FD (d.fact 75 (f := .glo "law") rfl)
  have nd : (He.cT K ("at_once_by", none)).2 ≠ (He.cT K ("rings_by", none)).2 := by
    have x := c.more
    unfold hex at x
    have x := (He.ba (He.ba (He.ba x).2).2).2
    intro z
    rw [z] at x
    simp at x
  obtain ⟨f1, fd1, hm1, F1⟩ := FL
  have ef : f1 = fa := by
    rw [hmg] at hm1
    cases hm1
    rfl
  subst ef
  let T : List NTab := [((He.cT K ("at_once_by", none)).2, fun _ _ => ("at_once_by" : Str) ++ ".<locals>.<lambda>"), ((He.cT K ("rings_by", none)).2, fun _ _ => ("rings_by" : Str) ++ ".<locals>.<lambda>")]
  have tabs : ∀ {q : Addr × Addr → Prop}, (∀ p ∈ htabs, q (He.cT K p)) → ∀ p ∈ htabs.map (He.cT K), q p := fun hq p hp => by
    obtain ⟨z, hz, rfl⟩ := List.mem_map.mp hp
    exact hq z hz
  have b1 := F1.binds (ps := ["_law_script"]) fun _ _ _ _ _ _ us hl => match us, hl with | [_], _ => rfl
  refine law_callG (K := K) (mg := mg) (mb := mb) (k := 13) (fa := f1) (a := a) (cs := htabs.map (He.cT K)) (fd := fd1) (x := "_law_script") (sp := Prm K T none (DSpec R_law)) KX G.T.g G.T.b G.T.builtins G.T.nolimit hg
    (tabs fun p hp => c.empty p hp) (tabs fun p hp => c.out p hp) (tabs fun p hp => PySem.W.codeHd_of_K KX (c.hd p hp)) G.T.bmain hobj hints (Nat.le_trans hlen (by decide)) ⟨rfl, by decide, by decide⟩ (fun base hK hg tb => ?_) (fun s u => ?_) fun H hH hS => ?_
  · have t1 := tb _ (List.mem_map.mpr ⟨("at_once_by", none), by simp [htabs], rfl⟩)
    have t2 := tb _ (List.mem_map.mpr ⟨("rings_by", none), by simp [htabs], rfl⟩)
    obtain ⟨fd4, FD4⟩ := d.def_ 39 (d := dD "at_once_by" s_at_once_by) rfl
    obtain ⟨fd5, FD5⟩ := d.def_ 40 (d := dD "rings_by" s_rings_by) rfl
    have L1 : LamAt K mg base T "at_once_by" s_at_once_by := lam_of KX G.T.g FD4 (d.fact 39 (f := .glo "at_once_by") rfl) t1 (by simp [T]) fun p hp e => by
      simp only [T, List.mem_cons, List.not_mem_nil, or_false] at hp
      rcases hp with rfl | rfl
      · rfl
      · exact absurd e.symm nd
    have L2 : LamAt K mg base T "rings_by" s_rings_by := lam_of KX G.T.g FD5 (d.fact 40 (f := .glo "rings_by") rfl) t2 (by simp [T]) fun p hp e => by
      simp only [T, List.mem_cons, List.not_mem_nil, or_false] at hp
      rcases hp with rfl | rfl
      · exact absurd e nd
      · rfl
    obtain ⟨f2, fd2, hm2, FG, F2, _⟩ := all_law (P := (PySem.Challenge.rw_heednets_k12_whole_swings_where_scales_a).prog) (w := w) (base := base) (T := T) M ⟨f1, fd1, hm1, F1⟩ L1 L2
    have e2 : f2 = f1 := by
      rw [hm1] at hm2
      cases hm2
      rfl
    subst e2
    obtain ⟨_, _, _, _, _, _, _, _, _, _, k1, _⟩ := F1.ex
    obtain ⟨_, _, _, _, _, _, _, _, _, _, k2, _⟩ := F2.ex
    rw [k1] at k2
    have e3 : fd1 = fd2 := by
      have := congrArg Obj.data (Option.some.inj k2)
      exact Data.func.inj this
    subst e3
    exact FG
  · obtain ⟨oc, od, kV, doc, pm, an, cdv, ct, osl, he, _⟩ := F1.ex
    rw [he]
    exact .of_eq rfl
  · refine ⟨?_, (fun b e => nomatch e), [.ls (intL ns)], _, .cons ⟨⟨a, _, rfl, fun e => (nomatch e), hS, RpA.ofInts ns⟩, .inl rfl⟩ .nil, ⟨.im (.bl true), .mk ns, rfl, rfl, rfl⟩, fun v H' k e _ r => ?_⟩
    · intro p hp
      simp only [T, List.mem_cons, List.not_mem_nil, or_false] at hp
      rcases hp with rfl | rfl
      · exact TabN.nil (hH _ (List.mem_map.mpr ⟨("at_once_by", none), by simp [htabs], rfl⟩))
      · exact TabN.nil (hH _ (List.mem_map.mpr ⟨("rings_by", none), by simp [htabs], rfl⟩))
    · subst e
      cases r
      rfl
end Hn
open PySem PySem.W PySem.Calls PyProof.Rows in
theorem PySem.Challenge.cw_heednets_k12_whole_swings_where_scales_a_holds : PySem.Challenge.rw_heednets_k12_whole_swings_where_scales_a.Holds := by
  w_on; o_law
  refine HandSHeadRun.head_imp (r := OpenLaw.row PySem.Challenge.rw_heednets_k12_whole_swings_where_scales_a) (q := view (OpenLaw.row PySem.Challenge.rw_heednets_k12_whole_swings_where_scales_a).prog [0, 95]) (H := Hn.hhk) (ob := Hn.hob) (M := 6000) (loose := Hn.hnames) (d := HandSHeadRun.topDef (OpenLaw.row PySem.Challenge.rw_heednets_k12_whole_swings_where_scales_a).prog 95) (kwd := []) Hn.hob_eq
    Hn.hrun (by kernel_rfl) (by kernel_rfl) (by kernel_rfl) (by rfl) (by first | assumption | decide +kernel) (by decide +kernel) ⟨rfl, rfl, rfl, rfl, rfl, by decide +kernel⟩ ?hw ?hc
  case hw => w_witness2
  case hc => exact Hn.law_walk
end
