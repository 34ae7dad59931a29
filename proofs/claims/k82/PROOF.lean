import PyProof.Rows.All
import Wide.All
import OpenK.AllK
import Wide.FinOn
import HandS.ForMost
import HandS.EndBits
import PySem.Challenge.RW_donetwice_k82_main_books_multiplied_and
import HandS.Words
import HandS.Comp
import HandS.Zip
import HandS.Iter
import HandS.TryOnly
import HandS.Style
import HandS.TupAny
import HandS.Flow
import HandS.Deep
import HandS.IsInst
import HandS.StrMore
import HandS.Wide
import HandS.Conv
import PyProof.ListStr
import HandS.SetFor
import PyProof.Rows.SortShellAny
import PyProof.Rows.StrCountLaw
import PyProof.StrBlock2
import PyProof.StrLawsIn
section
set_option Elab.async false
set_option linter.all false
set_option maxRecDepth 100000
set_option maxHeartbeats 1000000
/-! D0: plain data D, how it lies in the heap (Rp), slots, the state's picture (Rep), steps; ghost freezing. -/
namespace DD
open PySem PySem.Spec PyProof.Rows L2
abbrev St := L2.St

/-- plain data; a text is the list of its codes -/
inductive D where
  | non
  | bl (b : Bool)
  | int (i : Int)
  | str (l : List Nat)
  | lst (xs : List D)
  | tup (xs : List D)
  | scr (ns : List Int)

def sOf (l : List Nat) : Str := ⟨l.toArray⟩
theorem sOf_len (l : List Nat) : (sOf l).length = l.length := by
  show l.toArray.size = _
  simp
theorem sOf_list (l : List Nat) : (sOf l).cps.toList = l := by
  show l.toArray.toList = l
  simp
theorem sOf_inj {l m : List Nat} (h : sOf l = sOf m) : l = m := by
  have := congrArg (fun s => s.cps.toList) h
  simpa [sOf_list] using this
theorem sOf_eta (s : Str) : sOf s.cps.toList = s := by
  cases s with
  | mk c => show (⟨c.toList.toArray⟩ : Str) = ⟨c⟩; simp

/-- a list that nobody changes any more -/
def FzL (K : PySem.W.Frag) (H : Hp) (a : Addr) (xs : List V) : Prop := ∃ o, H a = some (.frz o (.lst xs))
theorem FzL.seq {K : PySem.W.Frag} {H : Hp} {a : Addr} {xs : List V} (h : FzL K H a xs) : SqL K H a xs := by
  obtain ⟨o, h⟩ := h
  exact .inl (.inr ⟨o, h⟩)
/-- .. or one of the module's own: the script -/
def FzK (K : PySem.W.Frag) (H : Hp) (a : Addr) (xs : List V) : Prop :=
  (∃ o, H a = some (.frz o (.lst xs))) ∨
    ∃ (o : Obj) (its : Array Value) (n : Nat), K.lookup a = some o ∧ o.cls = .type "list" ∧ o.dict = none ∧ o.data = .seq its n ∧ its.size ≤ sizeLine ∧ Vals xs its.toList
theorem FzK.seq {K : PySem.W.Frag} {H : Hp} {a : Addr} {xs : List V} (h : FzK K H a xs) : SqL K H a xs := by
  rcases h with ⟨o, h⟩ | h
  · exact .inl (.inr ⟨o, h⟩)
  · exact .inr h

mutual
inductive Rp (K : PySem.W.Frag) (H : Hp) : V → D → Prop
  | non : Rp K H .non .non
  | bl (b : Bool) : Rp K H (.bl b) (.bl b)
  | int (i : Int) : Rp K H (.int i) (.int i)
  | str {l : List Nat} (h : l.length ≤ sizeLine) : Rp K H (.str (sOf l)) (.str l)
  | lst {a : Addr} {xs : List V} {ds : List D} : FzL K H a xs → RpA K H xs ds → Rp K H (.ref a) (.lst ds)
  | tup {a : Addr} {xs : List V} {ds : List D} : SqT K H a xs → RpA K H xs ds → Rp K H (.ref a) (.tup ds)
  | scr {a : Addr} {ns : List Int} : FzK K H a (ns.map V.int) → Rp K H (.ref a) (.scr ns)
inductive RpA (K : PySem.W.Frag) (H : Hp) : List V → List D → Prop
  | nil : RpA K H [] []
  | cons {v : V} {vs : List V} {d : D} {ds : List D} : Rp K H v d → RpA K H vs ds → RpA K H (v :: vs) (d :: ds)
end

/-- what nobody can change stands -/
structure Mo (H H' : Hp) : Prop where
  tup : ∀ a xs, H a = some (.tup xs) → H' a = some (.tup xs)
  frz : ∀ a o u, H a = some (.frz o u) → H' a = some (.frz o u)
theorem Mo.refl (H : Hp) : Mo H H := ⟨fun _ _ h => h, fun _ _ _ h => h⟩
theorem Mo.trans {H H1 H2 : Hp} (a : Mo H H1) (b : Mo H1 H2) : Mo H H2 := ⟨fun x xs h => b.tup x xs (a.tup x xs h), fun x o u h => b.frz x o u (a.frz x o u h)⟩
theorem Mo.of {H H' : Hp} (s : Same H H') : Mo H H' := ⟨fun a _ h => s a _ h, fun a _ _ h => s a _ h⟩
theorem Mo.fzl {K : PySem.W.Frag} {H H' : Hp} {a : Addr} {xs : List V} (m : Mo H H') (h : FzL K H a xs) : FzL K H' a xs := by
  obtain ⟨o, h⟩ := h
  exact ⟨o, m.frz _ _ _ h⟩
theorem Mo.fzk {K : PySem.W.Frag} {H H' : Hp} {a : Addr} {xs : List V} (m : Mo H H') (h : FzK K H a xs) : FzK K H' a xs := by
  rcases h with ⟨o, h⟩ | h
  · exact .inl ⟨o, m.frz _ _ _ h⟩
  · exact .inr h
theorem Mo.sqt {K : PySem.W.Frag} {H H' : Hp} {a : Addr} {xs : List V} (m : Mo H H') (h : SqT K H a xs) : SqT K H' a xs := by
  rcases h with (h | ⟨o, h⟩) | h
  · exact .inl (.inl (m.tup _ _ h))
  · exact .inl (.inr ⟨o, m.frz _ _ _ h⟩)
  · exact .inr h
mutual
theorem Rp.mo {K : PySem.W.Frag} {H H' : Hp} (m : Mo H H') : ∀ {v : V} {d : D}, Rp K H v d → Rp K H' v d
  | _, _, .non => .non
  | _, _, .bl b => .bl b
  | _, _, .int i => .int i
  | _, _, .str h => .str h
  | _, _, .lst h r => .lst (m.fzl h) (RpA.mo m r)
  | _, _, .tup h r => .tup (m.sqt h) (RpA.mo m r)
  | _, _, .scr h => .scr (m.fzk h)
theorem RpA.mo {K : PySem.W.Frag} {H H' : Hp} (m : Mo H H') : ∀ {vs : List V} {ds : List D}, RpA K H vs ds → RpA K H' vs ds
  | _, _, .nil => .nil
  | _, _, .cons r t => .cons (Rp.mo m r) (RpA.mo m t)
end
section
variable {K : PySem.W.Frag} {H : Hp}
theorem RpA.length : ∀ {vs : List V} {ds : List D}, RpA K H vs ds → vs.length = ds.length
  | _, _, .nil => rfl
  | _, _, .cons _ t => congrArg (· + 1) (RpA.length t)
theorem RpA.get : ∀ {vs : List V} {ds : List D} {i : Nat} {d : D}, RpA K H vs ds → ds[i]? = some d → ∃ v, vs[i]? = some v ∧ Rp K H v d
  | _, _, i, d, .nil, h => by simp at h
  | _, _, 0, d, .cons r _, h => by simp at h; subst h; exact ⟨_, rfl, r⟩
  | _, _, i + 1, d, .cons _ t, h => by
    obtain ⟨v, h1, h2⟩ := RpA.get (i := i) (d := d) t (by simpa using h)
    exact ⟨v, by simpa using h1, h2⟩
theorem RpA.append : ∀ {vs ws : List V} {ds es : List D}, RpA K H vs ds → RpA K H ws es → RpA K H (vs ++ ws) (ds ++ es)
  | _, _, _, _, .nil, s => s
  | _, _, _, _, .cons r t, s => .cons r (RpA.append t s)
theorem RpA.take : ∀ {vs : List V} {ds : List D} (n : Nat), RpA K H vs ds → RpA K H (vs.take n) (ds.take n)
  | _, _, 0, _ => .nil
  | _, _, _ + 1, .nil => .nil
  | _, _, n + 1, .cons r t => .cons r (RpA.take n t)
theorem RpA.drop : ∀ {vs : List V} {ds : List D} (n : Nat), RpA K H vs ds → RpA K H (vs.drop n) (ds.drop n)
  | _, _, 0, r => r
  | _, _, _ + 1, .nil => .nil
  | _, _, n + 1, .cons _ t => RpA.drop n t
theorem RpA.set {v : V} {d : D} (r : Rp K H v d) : ∀ {vs : List V} {ds : List D} (i : Nat), RpA K H vs ds → RpA K H (vs.set i v) (ds.set i d)
  | _, _, _, .nil => .nil
  | _, _, 0, .cons _ t => .cons r t
  | _, _, i + 1, .cons q t => .cons q (RpA.set r i t)
theorem RpA.erase : ∀ {vs : List V} {ds : List D} (i : Nat), RpA K H vs ds → RpA K H (vs.eraseIdx i) (ds.eraseIdx i)
  | _, _, _, .nil => .nil
  | _, _, 0, .cons _ t => t
  | _, _, i + 1, .cons q t => .cons q (RpA.erase i t)
theorem RpA.nil_of {vs : List V} (r : RpA K H vs []) : vs = [] := by cases r; rfl
theorem RpA.one {vs : List V} {d : D} (r : RpA K H vs [d]) : ∃ v, vs = [v] ∧ Rp K H v d := by
  cases r with
  | cons r t => cases t; exact ⟨_, rfl, r⟩
theorem RpA.two {vs : List V} {d e : D} (r : RpA K H vs [d, e]) : ∃ v w, vs = [v, w] ∧ Rp K H v d ∧ Rp K H w e := by
  cases r with
  | cons r t =>
    obtain ⟨w, rfl, r2⟩ := t.one
    exact ⟨_, _, rfl, r, r2⟩
theorem Rp.int_of {v : V} {i : Int} (r : Rp K H v (.int i)) : v = .int i := by cases r; rfl
theorem Rp.bl_of {v : V} {b : Bool} (r : Rp K H v (.bl b)) : v = .bl b := by cases r; rfl
theorem Rp.non_of {v : V} (r : Rp K H v .non) : v = .non := by cases r; rfl
theorem Rp.str_of {v : V} {l : List Nat} (r : Rp K H v (.str l)) : v = .str (sOf l) ∧ l.length ≤ sizeLine := by cases r with | str h => exact ⟨rfl, h⟩
theorem Rp.lst_of {v : V} {ds : List D} (r : Rp K H v (.lst ds)) : ∃ a vs, v = .ref a ∧ FzL K H a vs ∧ RpA K H vs ds := by cases r with | lst h r => exact ⟨_, _, rfl, h, r⟩
theorem Rp.tup_of {v : V} {ds : List D} (r : Rp K H v (.tup ds)) : ∃ a vs, v = .ref a ∧ SqT K H a vs ∧ RpA K H vs ds := by cases r with | tup h r => exact ⟨_, _, rfl, h, r⟩
theorem RpA.ints : ∀ {ns : List Int} {vs : List V}, RpA K H vs (ns.map D.int) → vs = ns.map V.int
  | [], _, .nil => rfl
  | n :: ns, _, .cons r t => by rw [r.int_of, RpA.ints t]; rfl
theorem RpA.strs : ∀ {ls : List (List Nat)} {vs : List V}, RpA K H vs (ls.map D.str) → vs = (ls.map sOf).map V.str ∧ ∀ l ∈ ls, l.length ≤ sizeLine
  | [], _, .nil => ⟨rfl, fun _ h => nomatch h⟩
  | l :: ls, _, .cons r t => by
    obtain ⟨e1, h1⟩ := r.str_of
    obtain ⟨e2, h2⟩ := RpA.strs t
    refine ⟨by rw [e1, e2]; rfl, fun m hm => ?_⟩
    rcases List.mem_cons.mp hm with rfl | hm
    · exact h1
    · exact h2 m hm
theorem RpA.bls : ∀ {bs : List Bool} {vs : List V}, RpA K H vs (bs.map D.bl) → vs = bs.map V.bl
  | [], _, .nil => rfl
  | n :: ns, _, .cons r t => by rw [r.bl_of, RpA.bls t]; rfl
theorem RpA.of_ints : ∀ (ns : List Int), RpA K H (ns.map V.int) (ns.map D.int)
  | [] => .nil
  | n :: ns => .cons (.int n) (RpA.of_ints ns)
theorem RpA.of_strs : ∀ (ls : List (List Nat)), (∀ l ∈ ls, l.length ≤ sizeLine) → RpA K H ((ls.map sOf).map V.str) (ls.map D.str)
  | [], _ => .nil
  | l :: ls, h => .cons (.str (h l List.mem_cons_self)) (RpA.of_strs ls fun m hm => h m (List.mem_cons_of_mem _ hm))
theorem RpA.repl {v : V} {d : D} (r : Rp K H v d) : ∀ n : Nat, RpA K H (List.replicate n v) (List.replicate n d)
  | 0 => .nil
  | n + 1 => .cons r (RpA.repl r n)
theorem RpA.flat {vs : List V} {ds : List D} (r : RpA K H vs ds) : ∀ n : Nat, RpA K H (List.replicate n vs).flatten (List.replicate n ds).flatten
  | 0 => .nil
  | n + 1 => by
    rw [List.replicate_succ, List.replicate_succ, List.flatten_cons, List.flatten_cons]
    exact r.append (RpA.flat r n)
end

/-- what a thing of the def's own holds that it changes: a list, a dict -/
inductive Cont where
  | l (xs : List D)
  | m (kvs : List (Key × D))
def RpM (K : PySem.W.Frag) (H : Hp) : List (Key × V) → List (Key × D) → Prop := Paired fun p q => p.1 = q.1 ∧ Rp K H p.2 q.2
def CRp (K : PySem.W.Frag) (H : Hp) (a : Addr) : Cont → Prop
  | .l xs => ∃ vs, H a = some (.lst vs) ∧ RpA K H vs xs
  | .m kvs => ∃ vs, H a = some (.dK vs) ∧ RpM K H vs kvs
theorem RpM.mo {K : PySem.W.Frag} {H H' : Hp} (m : Mo H H') : ∀ {vs : List (Key × V)} {ds : List (Key × D)}, RpM K H vs ds → RpM K H' vs ds
  | _, _, .nil => .nil
  | _, _, .cons r t => .cons ⟨r.1, r.2.mo m⟩ (RpM.mo m t)
theorem CRp.at {K : PySem.W.Frag} {H H' : Hp} {a : Addr} {c : Cont} (m : Mo H H') (e : H' a = H a) (h : CRp K H a c) : CRp K H' a c := by
  cases c with
  | l xs => obtain ⟨vs, h1, h2⟩ := h; exact ⟨vs, e.trans h1, h2.mo m⟩
  | m kvs => obtain ⟨vs, h1, h2⟩ := h; exact ⟨vs, e.trans h1, h2.mo m⟩
theorem CRp.some {K : PySem.W.Frag} {H : Hp} {a : Addr} {c : Cont} (h : CRp K H a c) : ∃ o, H a = some o ∧ (∀ xs, o ≠ .tup xs) ∧ ∀ ob u, o ≠ .frz ob u := by
  cases c with
  | l xs => obtain ⟨vs, h1, h2⟩ := h; exact ⟨_, h1, (fun _ z => by cases z), (fun _ _ z => by cases z)⟩
  | m kvs => obtain ⟨vs, h1, h2⟩ := h; exact ⟨_, h1, (fun _ z => by cases z), (fun _ _ z => by cases z)⟩

inductive Slot where
  | emp
  | val (d : D)
  | liv (c : Cont)
  | par (c : Cont)
abbrev Env := List Slot
def Slot.live : Slot → Bool
  | .liv _ => true
  | .par _ => true
  | _ => false
/-- a def's entry: the heap, what was handed in to be changed -/
structure Bs where
  H : Hp
  p : List (Nat × Addr)
def SlotOk (K : PySem.W.Frag) (B : Bs) (H : Hp) (i : Nat) (o : Option V) : Slot → Prop
  | .emp => True
  | .val d => ∃ v, o = some v ∧ Rp K H v d
  | .liv c => ∃ a, o = some (.ref a) ∧ B.H a = none ∧ CRp K H a c
  | .par c => ∃ a, o = some (.ref a) ∧ (i, a) ∈ B.p ∧ CRp K H a c

structure Rep (K : PySem.W.Frag) (B : Bs) (L : Env) (σ : St) (H : Hp) : Prop where
  len : L.length = σ.length
  base : ∀ b o, B.H b = some o → (∀ i, (i, b) ∉ B.p) → H b = some o
  slot : ∀ (i : Nat) (s : Slot) (o : Option V), L[i]? = some s → σ[i]? = some o → SlotOk K B H i o s
  inj : ∀ (i j : Nat) (s t : Slot) (a : Addr), L[i]? = some s → L[j]? = some t → s.live = true → t.live = true → σ[i]? = some (some (.ref a)) → σ[j]? = some (some (.ref a)) → i = j
  pars : ∀ (i : Nat) (a : Addr), (i, a) ∈ B.p → (∃ c, L[i]? = some (.par c)) ∧ σ[i]? = some (some (.ref a))

def Live (L : Env) (σ : St) (a : Addr) : Prop := ∃ (i : Nat) (s : Slot), L[i]? = some s ∧ s.live = true ∧ σ[i]? = some (some (.ref a))
/-- what a step leaves: all but what is live -/
structure Stp (L : Env) (σ : St) (H H' : Hp) : Prop where
  keep : ∀ b o, H b = some o → ¬ Live L σ b → H' b = some o
  dom : ∀ b, H' b = none → H b = none
/-- no slot comes to life -/
def LSub (L L' : Env) : Prop := ∀ (i : Nat) (s' : Slot), L'[i]? = some s' → s'.live = true → ∃ s : Slot, L[i]? = some s ∧ s.live = true

theorem LSub.refl (L : Env) : LSub L L := fun i s h l => ⟨s, h, l⟩
theorem LSub.trans {L L1 L2 : Env} (a : LSub L L1) (b : LSub L1 L2) : LSub L L2 := fun i s h l => by
  obtain ⟨s1, h1, l1⟩ := b i s h l
  exact a i s1 h1 l1
theorem Live.sub {L L' : Env} {σ : St} {a : Addr} (s : LSub L L') (h : Live L' σ a) : Live L σ a := by
  obtain ⟨i, t, h1, h2, h3⟩ := h
  obtain ⟨s1, h4, h5⟩ := s i t h1 h2
  exact ⟨i, s1, h4, h5, h3⟩
theorem Stp.refl (L : Env) (σ : St) (H : Hp) : Stp L σ H H := ⟨fun _ _ h _ => h, fun _ h => h⟩
theorem Stp.trans {L L1 : Env} {σ : St} {H H1 H2 : Hp} (s : LSub L L1) (a : Stp L σ H H1) (b : Stp L1 σ H1 H2) : Stp L σ H H2 :=
  ⟨fun x o h n => b.keep x o (a.keep x o h n) fun l => n (l.sub s), fun x h => a.dom x (b.dom x h)⟩
theorem Stp.of_same {L : Env} {σ : St} {H H' : Hp} (s : Same H H') : Stp L σ H H' := ⟨fun b o h _ => s b o h, fun _ h => s.free h⟩
theorem upd_dom {H : Hp} {a b : Addr} {o : HO} (h : upd H a o b = none) : H b = none := by
  by_cases e : b = a
  · subst e; rw [upd_same] at h; cases h
  · rwa [upd_ne e] at h
theorem Stp.upd {L : Env} {σ : St} {H : Hp} {a : Addr} {o : HO} (l : Live L σ a) : Stp L σ H (upd H a o) :=
  ⟨fun b u h n => by
    rw [upd_ne]; exact h
    rintro rfl; exact n l, fun _ => upd_dom⟩

section
variable {K : PySem.W.Frag} {B : Bs} {L : Env} {σ : St} {H H' : Hp}
/-- a live thing -/
theorem Rep.liveAt (R : Rep K B L σ H) {a : Addr} (l : Live L σ a) : ∃ c, CRp K H a c := by
  obtain ⟨i, s, h1, h2, h3⟩ := l
  have q := R.slot i s _ h1 h3
  cases s with
  | emp => cases h2
  | val d => cases h2
  | liv c => obtain ⟨a', e, _, q⟩ := q; cases e; exact ⟨c, q⟩
  | par c => obtain ⟨a', e, _, q⟩ := q; cases e; exact ⟨c, q⟩
theorem Rep.mo (R : Rep K B L σ H) (s : Stp L σ H H') : Mo H H' := by
  refine ⟨fun a xs h => s.keep a _ h fun l => ?_, fun a o u h => s.keep a _ h fun l => ?_⟩
  · obtain ⟨c, q⟩ := R.liveAt l
    obtain ⟨o, e, n, _⟩ := q.some
    rw [h] at e; cases e
    exact n _ rfl
  · obtain ⟨c, q⟩ := R.liveAt l
    obtain ⟨o', e, _, n⟩ := q.some
    rw [h] at e; cases e
    exact n _ _ rfl
/-- the heap grows -/
theorem Rep.grow (R : Rep K B L σ H) (s : Same H H') : Rep K B L σ H' := by
  refine ⟨R.len, fun b o h n => s _ _ (R.base b o h n), fun i t o h1 h2 => ?_, R.inj, R.pars⟩
  have q := R.slot i t o h1 h2
  have at_ : ∀ {a : Addr} {c : Cont}, CRp K H a c → CRp K H' a c := fun {a c} z => by
    obtain ⟨u, e, _⟩ := z.some
    exact z.at (Mo.of s) (by rw [s _ _ e, e])
  cases t with
  | emp => trivial
  | val d => obtain ⟨v, e, r⟩ := q; exact ⟨v, e, r.mo (Mo.of s)⟩
  | liv c => obtain ⟨a, e, n, r⟩ := q; exact ⟨a, e, n, at_ r⟩
  | par c => obtain ⟨a, e, n, r⟩ := q; exact ⟨a, e, n, at_ r⟩
/-- what is new now was new at the entry -/
theorem Rep.fresh (R : Rep K B L σ H) {a : Addr} (h : H a = none) : B.H a = none := by
  cases e : B.H a with
  | none => rfl
  | some o =>
    by_cases q : ∃ i, (i, a) ∈ B.p
    · obtain ⟨i, q⟩ := q
      obtain ⟨⟨c, h1⟩, h2⟩ := R.pars i a q
      obtain ⟨a', e1, _, r⟩ := R.slot i _ _ h1 h2
      cases e1
      obtain ⟨u, e2, _⟩ := r.some
      rw [h] at e2; cases e2
    · have := R.base a o e fun i z => q ⟨i, z⟩
      rw [h] at this; cases this
/-- a live slot's content changes; all else stands -/
theorem Rep.chg (R : Rep K B L σ H) {i : Nat} {s : Slot} {a : Addr} {c' : Cont} {o' : HO} (hi : L[i]? = some s) (hl : s.live = true) (hs : σ[i]? = some (some (.ref a)))
    (hc : CRp K (upd H a o') a c') (s' : Slot) (hs' : s' = match s with | .par _ => Slot.par c' | _ => Slot.liv c') : Rep K B (L.set i s') σ (upd H a o') := by
  have la : Live L σ a := ⟨i, s, hi, hl, hs⟩
  have ilt : i < L.length := (List.getElem?_eq_some_iff.mp hi).1
  have stp : Stp L σ H (upd H a o') := .upd la
  have mo := R.mo stp
  have other : ∀ {j : Nat} {t : Slot} {b : Addr}, j ≠ i → L[j]? = some t → t.live = true → σ[j]? = some (some (.ref b)) → b ≠ a := fun {j t b} hj h1 h2 h3 e => by
    subst e; exact hj (R.inj j i t s b h1 hi h2 hl h3 hs)
  have q := R.slot i s _ hi hs
  have lv' : s'.live = true := by subst hs'; cases s <;> rfl
  refine ⟨by rw [List.length_set]; exact R.len, fun b o h n => ?_, fun j t o h1 h2 => ?_, fun j k t u b h1 h2 h3 h4 h5 h6 => ?_, fun j b h => ?_⟩
  · rw [upd_ne]; exact R.base b o h n
    rintro rfl
    cases s with
    | emp => cases hl
    | val d => cases hl
    | liv c => obtain ⟨a', e, z, _⟩ := q; cases e; rw [h] at z; cases z
    | par c => obtain ⟨a', e, z, _⟩ := q; cases e; exact n i z
  · by_cases hj : j = i
    · subst hj
      rw [List.getElem?_set_self ilt] at h1; cases h1
      rw [hs] at h2; cases h2
      subst hs'
      cases s with
      | emp => cases hl
      | val d => cases hl
      | liv c => obtain ⟨a', e, z, _⟩ := q; cases e; exact ⟨a, rfl, z, hc⟩
      | par c => obtain ⟨a', e, z, _⟩ := q; cases e; exact ⟨a, rfl, z, hc⟩
    · rw [List.getElem?_set_ne (Ne.symm hj)] at h1
      have q2 := R.slot j t o h1 h2
      cases t with
      | emp => trivial
      | val d => obtain ⟨v, e, r⟩ := q2; exact ⟨v, e, r.mo mo⟩
      | liv c => obtain ⟨b, e, z, r⟩ := q2; subst e; exact ⟨b, rfl, z, r.at mo (upd_ne (other hj h1 rfl h2))⟩
      | par c => obtain ⟨b, e, z, r⟩ := q2; subst e; exact ⟨b, rfl, z, r.at mo (upd_ne (other hj h1 rfl h2))⟩
  · have old : ∀ {j : Nat} {t : Slot}, (L.set i s')[j]? = some t → t.live = true → ∃ t', L[j]? = some t' ∧ t'.live = true := fun {j t} h1 h2 => by
      by_cases hj : j = i
      · subst hj; exact ⟨s, hi, hl⟩
      · rw [List.getElem?_set_ne (Ne.symm hj)] at h1; exact ⟨t, h1, h2⟩
    obtain ⟨t', g1, g2⟩ := old h1 h3
    obtain ⟨u', g3, g4⟩ := old h2 h4
    exact R.inj j k t' u' b g1 g3 g2 g4 h5 h6
  · obtain ⟨⟨c, h1⟩, h2⟩ := R.pars j b h
    refine ⟨?_, h2⟩
    by_cases hj : j = i
    · subst hj
      rw [hi] at h1; cases h1
      exact ⟨c', by rw [List.getElem?_set_self ilt, hs']⟩
    · exact ⟨c, by rw [List.getElem?_set_ne (Ne.symm hj)]; exact h1⟩
theorem LSub.set {i : Nat} {s' : Slot} (h : ∀ s, L[i]? = some s → s'.live = true → s.live = true) : LSub L (L.set i s') := fun j t h1 h2 => by
  by_cases hj : j = i
  · subst hj
    by_cases hlt : j < L.length
    · rw [List.getElem?_set_self hlt] at h1; cases h1
      exact ⟨L[j], by simp [hlt], h _ (by simp [hlt]) h2⟩
    · rw [List.getElem?_eq_none (by simpa using hlt)] at h1; cases h1
  · rw [List.getElem?_set_ne (Ne.symm hj)] at h1; exact ⟨t, h1, h2⟩

/-- a live list of one's own is frozen (a ghost step) -/
theorem Rep.freeze (R : Rep K B L σ H) {i : Nat} {xs : List D} {a : Addr} {vs : List V} {ob : Obj} (hi : L[i]? = some (.liv (.l xs))) (hs : σ[i]? = some (some (.ref a))) (hv : H a = some (.lst vs)) (hr : RpA K H vs xs) :
    Rep K B (L.set i (.val (.lst xs))) σ (upd H a (.frz ob (.lst vs))) ∧ Stp L σ H (upd H a (.frz ob (.lst vs))) ∧ Rp K (upd H a (.frz ob (.lst vs))) (.ref a) (.lst xs) := by
  have la : Live L σ a := ⟨i, _, hi, rfl, hs⟩
  have ilt : i < L.length := (List.getElem?_eq_some_iff.mp hi).1
  have stp : Stp L σ H (upd H a (.frz ob (.lst vs))) := .upd la
  have mo := R.mo stp
  have rr : Rp K (upd H a (.frz ob (.lst vs))) (.ref a) (.lst xs) := .lst ⟨ob, upd_same⟩ (hr.mo mo)
  have other : ∀ {j : Nat} {t : Slot} {b : Addr}, j ≠ i → L[j]? = some t → t.live = true → σ[j]? = some (some (.ref b)) → b ≠ a := fun {j t b} hj h1 h2 h3 e => by
    subst e; exact hj (R.inj j i t _ b h1 hi h2 rfl h3 hs)
  obtain ⟨a', e', z0, _⟩ := R.slot i _ _ hi hs
  cases e'
  refine ⟨⟨by rw [List.length_set]; exact R.len, fun b o h n => ?_, fun j t o h1 h2 => ?_, fun j k t u b h1 h2 h3 h4 h5 h6 => ?_, fun j b h => ?_⟩, stp, rr⟩
  · rw [upd_ne]; exact R.base b o h n
    rintro rfl; rw [h] at z0; cases z0
  · by_cases hj : j = i
    · subst hj
      rw [List.getElem?_set_self ilt] at h1; cases h1
      rw [hs] at h2; cases h2
      exact ⟨_, rfl, rr⟩
    · rw [List.getElem?_set_ne (Ne.symm hj)] at h1
      have q2 := R.slot j t o h1 h2
      cases t with
      | emp => trivial
      | val d => obtain ⟨v, e, r⟩ := q2; exact ⟨v, e, r.mo mo⟩
      | liv c => obtain ⟨b, e, z, r⟩ := q2; subst e; exact ⟨b, rfl, z, r.at mo (upd_ne (other hj h1 rfl h2))⟩
      | par c => obtain ⟨b, e, z, r⟩ := q2; subst e; exact ⟨b, rfl, z, r.at mo (upd_ne (other hj h1 rfl h2))⟩
  · have old : ∀ {j : Nat} {t : Slot}, (L.set i (.val (.lst xs)))[j]? = some t → t.live = true → L[j]? = some t := fun {j t} h1 h2 => by
      by_cases hj : j = i
      · subst hj; rw [List.getElem?_set_self ilt] at h1; cases h1; cases h2
      · rw [List.getElem?_set_ne (Ne.symm hj)] at h1; exact h1
    exact R.inj j k t u b (old h1 h3) (old h2 h4) h3 h4 h5 h6
  · obtain ⟨⟨c, h1⟩, h2⟩ := R.pars j b h
    refine ⟨?_, h2⟩
    by_cases hj : j = i
    · subst hj
      rw [hi] at h1; cases h1
    · exact ⟨c, by rw [List.getElem?_set_ne (Ne.symm hj)]; exact h1⟩

/-- a slot of no parameter to be changed gets another value -/
theorem Rep.put (R : Rep K B L σ H) {i : Nat} {s' : Slot} {v : V} (hi : i < L.length) (np : ∀ c, L[i]? ≠ some (.par c)) (ok : SlotOk K B H i (some v) s')
    (new : s'.live = true → ∀ (j : Nat) (t : Slot) (a : Addr), j ≠ i → L[j]? = some t → t.live = true → σ[j]? = some (some (.ref a)) → v ≠ .ref a) : Rep K B (L.set i s') (σ.set i (some v)) H := by
  have hσ : i < σ.length := by rw [← R.len]; exact hi
  refine ⟨by rw [List.length_set, List.length_set]; exact R.len, R.base, fun j t o h1 h2 => ?_, fun j k t u b h1 h2 h3 h4 h5 h6 => ?_, fun j b h => ?_⟩
  · by_cases hj : j = i
    · subst hj
      rw [List.getElem?_set_self hi] at h1; cases h1
      rw [List.getElem?_set_self hσ] at h2; cases h2
      exact ok
    · rw [List.getElem?_set_ne (Ne.symm hj)] at h1 h2
      exact R.slot j t o h1 h2
  · by_cases hj : j = i
    · by_cases hk : k = i
      · rw [hj, hk]
      · subst hj
        rw [List.getElem?_set_self hi] at h1; cases h1
        rw [List.getElem?_set_self hσ] at h5
        rw [List.getElem?_set_ne (Ne.symm hk)] at h2 h6
        cases h5
        exact absurd rfl (new h3 k u b hk h2 h4 h6)
    · rw [List.getElem?_set_ne (Ne.symm hj)] at h1 h5
      by_cases hk : k = i
      · subst hk
        rw [List.getElem?_set_self hi] at h2; cases h2
        rw [List.getElem?_set_self hσ] at h6
        cases h6
        exact absurd rfl (new h4 j t b hj h1 h3 h5)
      · rw [List.getElem?_set_ne (Ne.symm hk)] at h2 h6
        exact R.inj j k t u b h1 h2 h3 h4 h5 h6
  · obtain ⟨⟨c, h1⟩, h2⟩ := R.pars j b h
    by_cases hj : j = i
    · subst hj; exact absurd h1 (np c)
    · exact ⟨⟨c, by rw [List.getElem?_set_ne (Ne.symm hj)]; exact h1⟩, by rw [List.getElem?_set_ne (Ne.symm hj)]; exact h2⟩
/-- a slot is forgotten -/
theorem Rep.forget (R : Rep K B L σ H) {i : Nat} (np : ∀ c, L[i]? ≠ some (.par c)) : Rep K B (L.set i .emp) σ H := by
  refine ⟨by rw [List.length_set]; exact R.len, R.base, fun j t o h1 h2 => ?_, fun j k t u b h1 h2 h3 h4 h5 h6 => ?_, fun j b h => ?_⟩
  · by_cases hj : j = i
    · subst hj
      have hi : j < L.length := by have := (List.getElem?_eq_some_iff.mp h1).1; simpa using this
      rw [List.getElem?_set_self hi] at h1; cases h1
      trivial
    · rw [List.getElem?_set_ne (Ne.symm hj)] at h1
      exact R.slot j t o h1 h2
  · have old : ∀ {j : Nat} {t : Slot}, (L.set i .emp)[j]? = some t → t.live = true → L[j]? = some t := fun {j t} h1 h2 => by
      by_cases hj : j = i
      · subst hj
        have hi : j < L.length := by have := (List.getElem?_eq_some_iff.mp h1).1; simpa using this
        rw [List.getElem?_set_self hi] at h1; cases h1; cases h2
      · rw [List.getElem?_set_ne (Ne.symm hj)] at h1; exact h1
    exact R.inj j k t u b (old h1 h3) (old h2 h4) h3 h4 h5 h6
  · obtain ⟨⟨c, h1⟩, h2⟩ := R.pars j b h
    by_cases hj : j = i
    · subst hj; exact absurd h1 (np c)
    · exact ⟨⟨c, by rw [List.getElem?_set_ne (Ne.symm hj)]; exact h1⟩, h2⟩
end

/-! ### ghost freezing of the abstract heap -/
section
variable {X : Cx} {pins : List (Addr × Obj)} {σ : St} {H : Hp} {s : Shared} {a : Addr} {xs : List V}
theorem inv_freeze (I : Inv X pins σ H s) (h : H a = some (.lst xs)) : ∃ o, Inv X pins σ (upd H a (.frz o (.lst xs))) s := by
  have ok := I.hok a _ h
  obtain ⟨z, its, n, r, e⟩ := id ok
  refine ⟨{ cls := .type "list", data := .seq its.toArray n }, I.un (h' := s.heap) (t' := s.toks) (H' := upd H a (.frz { cls := .type "list", data := .seq its.toArray n } (.lst xs))) ?_ ?_⟩
  · refine ⟨fun b o q _ _ _ => q, fun b o q _ _ _ => ⟨o.slots, q⟩, fun b o q n _ => ?_, fun b o q _ => ⟨o, q⟩, fun b ys q => ?_, fun b o u q => ?_, fun b ps q => ⟨#[], ?_⟩⟩
    · rw [upd_ne]; exact n
      rintro rfl; rw [h] at n; cases n
    · rw [upd_ne]; exact q
      rintro rfl; rw [h] at q; cases q
    · rw [upd_ne]; exact q
      rintro rfl; rw [h] at q; cases q
    · rw [upd_ne]; · rw [q]; simp
      rintro rfl; rw [h] at q; cases q
  · intro b u q
    by_cases hb : b = a
    · subst hb
      rw [upd_same] at q; cases q
      exact ⟨e, z, its, n, r, e⟩
    · rw [upd_ne hb] at q
      refine (I.hok b u q).stay (fun c v _ w => w) (fun c w => ?_) fun c ys w => ?_
      · rw [upd_ne]; exact w
        rintro rfl; rw [h] at w; cases w
      · rw [upd_ne]; exact w
        rintro rfl; rw [h] at w; cases w
end
theorem pe_mono {X : Cx} {e : Expr} {t t' : TE} (h : PE X e t) (m : ∀ σ H Q, t' σ H Q → t σ H Q) : PE X e t' := ⟨fun pins s σ H Q I q => h.run pins s σ H Q I (m σ H Q q)⟩
theorem pt_mono {X : Cx} {e : Expr} {t t' : TT} (h : PT X e t) (m : ∀ σ H Q, t' σ H Q → t σ H Q) : PT X e t' := ⟨fun pins s σ H Q I q => h.run pins s σ H Q I (m σ H Q q)⟩
theorem pw_mono {X : Cx} {e : Expr} {t t' : TT} (h : PW X e t) (m : ∀ σ H Q, t' σ H Q → t σ H Q) : PW X e t' := ⟨fun wh pins s σ H Q I q => h.run wh pins s σ H Q I (m σ H Q q)⟩
theorem pa_mono {X : Cx} {es : List Expr} {t t' : TA} (h : PA X es t) (m : ∀ σ H Q, t' σ H Q → t σ H Q) : PA X es t' := ⟨fun pos pins s σ H Q I q => h.run pos pins s σ H Q I (m σ H Q q)⟩
theorem ps_mono {X : Cx} {st : Stmt} {t t' : TS} (h : PS X st t) (m : ∀ D σ H, t' D σ H → t D σ H) : PS X st t' := ⟨fun pins s σ H D I q => h.run pins s σ H D I (m D σ H q)⟩
theorem pss_mono {X : Cx} {st : List Stmt} {t t' : TS} (h : PSs X st t) (m : ∀ D σ H, t' D σ H → t D σ H) : PSs X st t' := ⟨fun pins s σ H D I q => h.run pins s σ H D I (m D σ H q)⟩
/-- an expression's list may be frozen as soon as it is there -/
def tFz (t : TE) : TE := fun σ H Q => t σ H fun v H1 => Q v H1 ∨ ∃ a xs, H1 a = some (.lst xs) ∧ ∀ o, Q v (upd H1 a (.frz o (.lst xs)))
theorem pe_fz {X : Cx} {e : Expr} {t : TE} (h : PE X e t) : PE X e (tFz t) := by
  refine ⟨fun pins s σ H Q I q => thn (h.run pins s σ H _ I q) fun u s1 ⟨v, H1, I1, r, z⟩ => ?_⟩
  rcases z with z | ⟨a, xs, ha, z⟩
  · exact ⟨v, H1, I1, r, z⟩
  · obtain ⟨o, I2⟩ := inv_freeze I1 ha
    exact ⟨v, _, I2, r, z o⟩
end DD

end
section
set_option Elab.async false
set_option linter.all false
set_option maxRecDepth 100000
set_option maxHeartbeats 1000000
/-! D1: contexts, the judgements of expressions over plain data, calls of defs. -/
namespace DD
open PySem PySem.Spec PyProof.Rows L2

inductive Arg where
  | v (d : D)
  | c (c : Cont)
inductive Ret where
  | v (d : D)
  | o (c : Cont)
abbrev Fn := List Arg → Option (Ret × List Cont)

def ArgsOk (K : PySem.W.Frag) (H : Hp) : Nat → List V → List Arg → List (Nat × Addr) → Prop
  | _, [], [], ps => ps = []
  | i, v :: vs, .v d :: as, ps => Rp K H v d ∧ ArgsOk K H (i + 1) vs as ps
  | i, v :: vs, .c c :: as, ps => ∃ a r, v = .ref a ∧ ps = (i, a) :: r ∧ CRp K H a c ∧ ArgsOk K H (i + 1) vs as r
  | _, _, _, _ => False
def CsOk (K : PySem.W.Frag) (H : Hp) : List (Nat × Addr) → List Cont → Prop
  | [], [] => True
  | p :: ps, c :: cs => CRp K H p.2 c ∧ CsOk K H ps cs
  | _, _ => False
def RetOk (K : PySem.W.Frag) (H0 H : Hp) (v : V) : Ret → Prop
  | .v d => Rp K H v d
  | .o c => ∃ a, v = .ref a ∧ H0 a = none ∧ CRp K H a c
/-- the promise of a def that computes F: n parameters -/
def spF (K : PySem.W.Frag) (n : Nat) (F : Fn) : Sp := fun vs H Q _ => vs.length = n ∧ ∃ as ps r cs, ArgsOk K H 0 vs as ps ∧ (ps.map (·.2)).Nodup ∧ F as = some (r, cs) ∧
  ∀ v H', (∀ b o, H b = some o → (∀ i, (i, b) ∉ ps) → H' b = some o) → CsOk K H' ps cs → RetOk K H H' v r → Q v H'
structure Knows (X : Cx) (x : Str) (F : Fn) : Prop where
  ex : ∃ (k : Nat) (f : Addr) (fd : FuncData) (ps : List Str), X.mg x = some (.ref f) ∧ PySem.W.keepIn X.K (.ref f) = true ∧ Binds X.K fd ps [] ∧ FnOk X.prog X.w X.K X.mg X.base CX0 k f fd ps (spF X.K ps.length F) ∧ Room k X.A ∧ ∀ as, F as ≠ none → as.length = ps.length

/-- what is known of a body's names -/
structure Gm where
  N : List Str
  sc : Scope
  st : List Str
  bi : List Str
  fn : List (Str × Fn)
  cn : List (Str × D)
abbrev Gm.nm (Γ : Gm) : List (Str × NameKind) := Γ.sc.names
structure Fits (Γ : Gm) (X : Cx) : Prop where
  N : X.N = Γ.N
  nd : X.N.Nodup
  sc : X.env.scope = Γ.sc
  st : ∀ x ∈ Γ.st, X.fn x = true ∨ Γ.sc.names.lookup x = some .local
  bi : ∀ x ∈ Γ.bi, X.mg x = none
  fn : ∀ x F, Γ.fn.lookup x = some F → Knows X x F
  cn : ∀ x d, Γ.cn.lookup x = some d → ∃ v u, X.mg x = some u ∧ RelV v u ∧ ∀ H, Rp X.K H v d
  calm : X.calm = true
  kind : Γ.sc.kind = .function
  xe : X.xe = fun _ _ => False
  un : X.A.units + 200 < cLine
  hd : X.A.handled = none
theorem Fits.gl {Γ : Gm} {X : Cx} (F : Fits Γ X) (x : Str) (h : Γ.nm.lookup x = some .globalImplicit) : Gl X x := by
  show X.env.scope.names.lookup x = _
  rw [F.sc]; exact h
theorem Fits.vis {Γ : Gm} {X : Cx} (F : Fits Γ X) (x : Str) (k : NameKind) (h : Γ.nm.lookup x = some k) (hk : k = .local ∨ k = .cell ∨ k = .free) : Vis X.env.scope x := by
  unfold Vis
  rw [F.sc]
  rcases hk with rfl | rfl | rfl
  · exact .inl h
  · exact .inr (.inl h)
  · exact .inr (.inr h)
theorem Fits.loc {Γ : Gm} {X : Cx} (F : Fits Γ X) (x : Str) (h : Γ.nm.lookup x = some .local ∨ Γ.nm.lookup x = some .cell) : L2.Loc X.env.scope x := by
  unfold L2.Loc
  rw [F.sc]; exact h
theorem Fits.sto {Γ : Gm} {X : Cx} (F : Fits Γ X) (x : Str) (h : x ∈ Γ.st) : X.fn x = true ∨ X.env.scope.names.lookup x = some .local := by
  rw [F.sc]; exact F.st x h

abbrev EV := Env → Option (D × Env)
abbrev EO := Env → Option (Cont × Env)
abbrev ET := Env → Option (Bool × Env)
inductive Sq where
  | l (xs : List D)
  | t (xs : List D)
  | s (l : List Nat)
  | m (kvs : List (Key × D))
  | v (d : D)
abbrev ES := Env → Option (Sq × Env)
def RpS (K : PySem.W.Frag) (H : Hp) (v : V) : Sq → Prop
  | .l xs => ∃ a vs, v = .ref a ∧ SqL K H a vs ∧ RpA K H vs xs
  | .t xs => ∃ a vs, v = .ref a ∧ SqT K H a vs ∧ RpA K H vs xs
  | .s l => v = .str (sOf l) ∧ l.length ≤ sizeLine
  | .m kvs => ∃ a vs, v = .ref a ∧ H a = some (.dK vs) ∧ RpM K H vs kvs
  | .v d => Rp K H v d

def tV (K : PySem.W.Frag) (ev : EV) : TE := fun σ H Q => ∃ B L d L', Rep K B L σ H ∧ ev L = some (d, L') ∧ ∀ v H', Rep K B L' σ H' → Stp L σ H H' → LSub L L' → Rp K H' v d → Q v H'
def tO (K : PySem.W.Frag) (eo : EO) : TE := fun σ H Q => ∃ B L c L', Rep K B L σ H ∧ eo L = some (c, L') ∧ ∀ a H', Rep K B L' σ H' → Stp L σ H H' → LSub L L' → H a = none → CRp K H' a c → Q (.ref a) H'
def tSq (K : PySem.W.Frag) (es : ES) : TE := fun σ H Q => ∃ B L s L', Rep K B L σ H ∧ es L = some (s, L') ∧ ∀ v H', Rep K B L' σ H' → Stp L σ H H' → LSub L L' → RpS K H' v s → Q v H'
def tT (K : PySem.W.Frag) (et : ET) : TT := fun σ H Q => ∃ B L b L', Rep K B L σ H ∧ et L = some (b, L') ∧ ∀ H', Rep K B L' σ H' → Stp L σ H H' → LSub L L' → Q b H'

/-- no star -/
def NS (e : Expr) : Prop := ∀ (rest : List Expr) (env : PySem.Env), starEach (e :: rest) env = (false, eval e env) :: starEach rest env
structure JE (Γ : Gm) (e : Expr) (ev : EV) : Prop where
  ns : NS e
  run : ∀ X, Fits Γ X → PE X e (tV X.K ev)
structure JO (Γ : Gm) (e : Expr) (eo : EO) : Prop where
  ns : NS e
  run : ∀ X, Fits Γ X → PE X e (tO X.K eo)
structure JS (Γ : Gm) (e : Expr) (es : ES) : Prop where
  ns : NS e
  run : ∀ X, Fits Γ X → PE X e (tSq X.K es)
structure JT (Γ : Gm) (e : Expr) (et : ET) : Prop where
  run : ∀ X, Fits Γ X → PT X e (tT X.K et)
structure JW (Γ : Gm) (e : Expr) (et : ET) : Prop where
  run : ∀ X, Fits Γ X → PW X e (tT X.K et)

section
variable {K : PySem.W.Frag} {B : Bs} {L L' : Env} {σ : St} {H H' : Hp}
theorem Stp.fresh (s : Stp L σ H H') {a : Addr} (h : H' a = none) : H a = none := s.dom a h
theorem RpS.stp {v : V} {q : Sq} (mo : Mo H H') (h : RpS K H v q) (st : ∀ a o, v = .ref a → H a = some o → H' a = some o) : RpS K H' v q := by
  have key : ∀ {a : Addr} {vs : List V}, v = .ref a → SqL K H a vs → SqL K H' a vs := fun {a vs} e h => by
    rcases h with (h | ⟨o, h⟩) | h
    · exact .inl (.inl (st _ _ e h))
    · exact .inl (.inr ⟨o, st _ _ e h⟩)
    · exact .inr h
  cases q with
  | l xs => obtain ⟨a, vs, e, h1, h2⟩ := h; exact ⟨a, vs, e, key e h1, h2.mo mo⟩
  | t xs => obtain ⟨a, vs, e, h1, h2⟩ := h; exact ⟨a, vs, e, mo.sqt h1, h2.mo mo⟩
  | s l => exact h
  | m kvs => obtain ⟨a, vs, e, h1, h2⟩ := h; exact ⟨a, vs, e, st _ _ e h1, h2.mo mo⟩
  | v d => exact Rp.mo mo h
end

/-! ### names, constants -/
section
variable {Γ : Gm} {pos : Pos}
def eVar (i : Nat) : EV := fun L => match L[i]? with
  | some (.val d) => some (d, L)
  | _ => none
def visS (sc : Scope) (x : Str) : Bool := match sc.names.lookup x with
  | some .local => true
  | some .cell => true
  | some .free => true
  | _ => false
theorem Fits.visB {X : Cx} (f : Fits Γ X) {x : Str} (h : visS Γ.sc x = true) : Vis X.env.scope x := by
  unfold visS at h
  cases e : Γ.nm.lookup x with
  | none => rw [e] at h; cases h
  | some k =>
    rw [e] at h
    refine f.vis x k e ?_
    cases k <;> first | exact .inl rfl | exact .inr (.inl rfl) | exact .inr (.inr rfl) | cases h
theorem je_var (i : Nat) {x : Str} (hN : Γ.N[i]? = some x) (hv : visS Γ.sc x = true) (hd : (x == ("__debug__" : Str)) = false) (hcd : (x == ("__classdict__" : Str)) = false) : JE Γ (.Name x pos) (eVar i) := by
  refine ⟨fun _ _ => rfl, fun X f => pe_mono (pe_var (i := i) (by rw [f.N]; exact hN) (f.visB hv) hd hcd) fun σ H Q h => ?_⟩
  obtain ⟨B, L, d, L', R, e, q⟩ := h
  unfold eVar at e
  split at e
  · rename_i d' hd'
    cases e
    have hi : i < σ.length := by rw [← R.len]; exact (List.getElem?_eq_some_iff.mp hd').1
    obtain ⟨v, e1, r⟩ := R.slot i _ _ hd' (List.getElem?_eq_getElem hi)
    refine ⟨v, by rw [List.getElem?_eq_getElem hi, e1], q v H R (.refl _ _ _) (.refl _) r⟩
  · cases e
/-- a list of the def's own: frozen as it is handed on -/
def eMv (i : Nat) : EV := fun L => match L[i]? with
  | some (.liv (.l xs)) => some (.lst xs, L.set i (.val (.lst xs)))
  | some (.val d) => some (d, L)
  | _ => none
theorem je_mv (i : Nat) {x : Str} (hN : Γ.N[i]? = some x) (hv : visS Γ.sc x = true) (hd : (x == ("__debug__" : Str)) = false) (hcd : (x == ("__classdict__" : Str)) = false) : JE Γ (.Name x pos) (eMv i) := by
  refine ⟨fun _ _ => rfl, fun X f => pe_mono (pe_fz (pe_var (i := i) (by rw [f.N]; exact hN) (f.visB hv) hd hcd)) fun σ H Q h => ?_⟩
  obtain ⟨B, L, d, L', R, e, q⟩ := h
  unfold eMv at e
  split at e
  · rename_i xs hd'
    cases e
    have hi : i < σ.length := by rw [← R.len]; exact (List.getElem?_eq_some_iff.mp hd').1
    obtain ⟨a, e1, z, vs, hv, hr⟩ := R.slot i _ _ hd' (List.getElem?_eq_getElem hi)
    have hs : σ[i]? = some (some (.ref a)) := by rw [List.getElem?_eq_getElem hi, e1]
    refine ⟨.ref a, hs, .inr ⟨a, vs, hv, fun o => ?_⟩⟩
    obtain ⟨R2, s2, r2⟩ := R.freeze (ob := o) hd' hs hv hr
    exact q _ _ R2 s2 (.set fun s h1 h2 => by cases h2) r2
  · rename_i d' hd'
    cases e
    have hi : i < σ.length := by rw [← R.len]; exact (List.getElem?_eq_some_iff.mp hd').1
    obtain ⟨v, e1, r⟩ := R.slot i _ _ hd' (List.getElem?_eq_getElem hi)
    exact ⟨v, by rw [List.getElem?_eq_getElem hi, e1], .inl (q v H R (.refl _ _ _) (.refl _) r)⟩
  · cases e
def eC (d : D) : EV := fun L => some (d, L)
theorem je_c {e : Expr} {v : V} {d : D} (ns : NS e) (h : ∀ X, PE X e (tC v)) (r : ∀ K H, Rp K H v d) : JE Γ e (eC d) := by
  refine ⟨ns, fun X f => pe_mono (h X) fun σ H Q hq => ?_⟩
  obtain ⟨B, L, d', L', R, e, q⟩ := hq
  cases e
  exact q v H R (.refl _ _ _) (.refl _) (r _ _)
theorem je_int {i : Int} {j} : JE Γ (.Constant (.int i) j pos) (eC (.int i)) := je_c (fun _ _ => rfl) (fun _ => pe_int) fun _ _ => .int i
theorem je_bl {b : Bool} {j} : JE Γ (.Constant (.bool b) j pos) (eC (.bl b)) := je_c (fun _ _ => rfl) (fun _ => pe_bl) fun _ _ => .bl b
theorem je_non {j} : JE Γ (.Constant .none j pos) (eC .non) := je_c (fun _ _ => rfl) (fun _ => pe_non) fun _ _ => .non
theorem je_str {x : Str} {l : List Nat} {j} (e : sOf l = x) (hl : l.length ≤ 1000) : JE Γ (.Constant (.str x) j pos) (eC (.str l)) :=
  je_c (fun _ _ => rfl) (fun _ => pe_str) fun _ _ => by subst e; exact .str (Nat.le_of_lt (small1000 hl))
/-- a constant of the module -/
theorem je_cn {x : Str} {d : D} (h : Γ.cn.lookup x = some d) (hg : Γ.nm.lookup x = some .globalImplicit) (hd : (x == ("__debug__" : Str)) = false) : JE Γ (.Name x pos) (eC d) := by
  refine ⟨fun _ _ => rfl, fun X f => ?_⟩
  obtain ⟨v, u, hm, r, hr⟩ := f.cn x d h
  refine pe_mono (pe_glob (f.gl x hg) hm r hd) fun σ H Q hq => ?_
  obtain ⟨B, L, d', L', R, e, q⟩ := hq
  cases e
  exact q v H R (.refl _ _ _) (.refl _) (hr _)
end

/-! ### what lies there may be read at once -/
section
variable {Γ : Gm} {pos : Pos} {e : Expr} {ev : EV} {eo : EO}
def sqV (ev : EV) : ES := fun L => match ev L with
  | some (.lst xs, L') => some (.l xs, L')
  | some (.tup xs, L') => some (.t xs, L')
  | some (.str l, L') => some (.s l, L')
  | some (d, L') => some (.v d, L')
  | none => none
def sqO (eo : EO) : ES := fun L => match eo L with
  | some (.l xs, L') => some (.l xs, L')
  | some (.m kvs, L') => some (.m kvs, L')
  | _ => none
def sqL (i : Nat) : ES := fun L => match L[i]? with
  | some (.liv (.l xs)) => some (.l xs, L)
  | some (.par (.l xs)) => some (.l xs, L)
  | some (.liv (.m xs)) => some (.m xs, L)
  | some (.par (.m xs)) => some (.m xs, L)
  | some (.val (.lst xs)) => some (.l xs, L)
  | some (.val (.tup xs)) => some (.t xs, L)
  | some (.val (.str l)) => some (.s l, L)
  | some (.val d) => some (.v d, L)
  | _ => none
theorem Rp.sq {K : PySem.W.Frag} {H : Hp} {v : V} {d : D} {s : Sq} (r : Rp K H v d) (h : (match d with | .lst xs => some (Sq.l xs) | .tup xs => some (.t xs) | .str l => some (.s l) | _ => none) = some s) : RpS K H v s := by
  cases r with
  | lst h1 h2 => cases h; exact ⟨_, _, rfl, h1.seq, h2⟩
  | tup h1 h2 => cases h; exact ⟨_, _, rfl, h1, h2⟩
  | str h1 => cases h; exact ⟨rfl, h1⟩
  | _ => cases h
theorem js_v (h : JE Γ e ev) : JS Γ e (sqV ev) := by
  refine ⟨h.ns, fun X f => pe_mono (h.run X f) fun σ H Q hq => ?_⟩
  obtain ⟨B, L, s, L', R, e, q⟩ := hq
  unfold sqV at e
  split at e
  · rename_i xs L1 e1
    cases e
    exact ⟨B, L, _, _, R, e1, fun v H' R' st ls r => q v H' R' st ls (r.sq rfl)⟩
  · rename_i xs L1 e1
    cases e
    exact ⟨B, L, _, _, R, e1, fun v H' R' st ls r => q v H' R' st ls (r.sq rfl)⟩
  · rename_i xs L1 e1
    cases e
    exact ⟨B, L, _, _, R, e1, fun v H' R' st ls r => q v H' R' st ls (r.sq rfl)⟩
  · rename_i d L1 _ _ _ e1
    cases e
    exact ⟨B, L, _, _, R, e1, fun v H' R' st ls r => q v H' R' st ls r⟩
  · cases e
theorem js_o (h : JO Γ e eo) : JS Γ e (sqO eo) := by
  refine ⟨h.ns, fun X f => pe_mono (h.run X f) fun σ H Q hq => ?_⟩
  obtain ⟨B, L, s, L', R, e, q⟩ := hq
  unfold sqO at e
  split at e
  · rename_i xs L1 e1
    cases e
    refine ⟨B, L, _, _, R, e1, fun a H' R' st ls n r => q _ H' R' st ls ?_⟩
    obtain ⟨vs, h1, h2⟩ := r
    exact ⟨a, vs, rfl, .of h1, h2⟩
  · rename_i xs L1 e1
    cases e
    refine ⟨B, L, _, _, R, e1, fun a H' R' st ls n r => q _ H' R' st ls ?_⟩
    obtain ⟨vs, h1, h2⟩ := r
    exact ⟨a, vs, rfl, h1, h2⟩
  · cases e
theorem js_l (i : Nat) {x : Str} (hN : Γ.N[i]? = some x) (hv : visS Γ.sc x = true) (hd : (x == ("__debug__" : Str)) = false) (hcd : (x == ("__classdict__" : Str)) = false) : JS Γ (.Name x pos) (sqL i) := by
  refine ⟨fun _ _ => rfl, fun X f => pe_mono (pe_var (i := i) (by rw [f.N]; exact hN) (f.visB hv) hd hcd) fun σ H Q h => ?_⟩
  obtain ⟨B, L, s, L', R, e, q⟩ := h
  have main : ∀ t, L[i]? = some t → ∃ o, σ[i]? = some o ∧ SlotOk X.K B H i o t := fun t ht => by
    have hi : i < σ.length := by rw [← R.len]; exact (List.getElem?_eq_some_iff.mp ht).1
    exact ⟨_, List.getElem?_eq_getElem hi, R.slot i _ _ ht (List.getElem?_eq_getElem hi)⟩
  unfold sqL at e
  split at e <;> first
    | (cases e; done)
    | skip
  · rename_i xs ht
    cases e
    obtain ⟨o, h1, a, rfl, _, vs, h2, h3⟩ := main _ ht
    exact ⟨_, h1, q _ H R (.refl _ _ _) (.refl _) ⟨a, vs, rfl, .of h2, h3⟩⟩
  · rename_i xs ht
    cases e
    obtain ⟨o, h1, a, rfl, _, vs, h2, h3⟩ := main _ ht
    exact ⟨_, h1, q _ H R (.refl _ _ _) (.refl _) ⟨a, vs, rfl, .of h2, h3⟩⟩
  · rename_i xs ht
    cases e
    obtain ⟨o, h1, a, rfl, _, vs, h2, h3⟩ := main _ ht
    exact ⟨_, h1, q _ H R (.refl _ _ _) (.refl _) ⟨a, vs, rfl, h2, h3⟩⟩
  · rename_i xs ht
    cases e
    obtain ⟨o, h1, a, rfl, _, vs, h2, h3⟩ := main _ ht
    exact ⟨_, h1, q _ H R (.refl _ _ _) (.refl _) ⟨a, vs, rfl, h2, h3⟩⟩
  · rename_i xs ht
    cases e
    obtain ⟨o, h1, v, rfl, r⟩ := main _ ht
    exact ⟨_, h1, q _ H R (.refl _ _ _) (.refl _) (r.sq rfl)⟩
  · rename_i xs ht
    cases e
    obtain ⟨o, h1, v, rfl, r⟩ := main _ ht
    exact ⟨_, h1, q _ H R (.refl _ _ _) (.refl _) (r.sq rfl)⟩
  · rename_i xs ht
    cases e
    obtain ⟨o, h1, v, rfl, r⟩ := main _ ht
    exact ⟨_, h1, q _ H R (.refl _ _ _) (.refl _) (r.sq rfl)⟩
  · rename_i d _ _ _ ht
    cases e
    obtain ⟨o, h1, v, rfl, r⟩ := main _ ht
    exact ⟨_, h1, q _ H R (.refl _ _ _) (.refl _) r⟩
/-- a new list as a value: frozen -/
def eFz (eo : EO) : EV := fun L => match eo L with
  | some (.l xs, L') => some (.lst xs, L')
  | _ => none
/-- a new tracked thing of no slot is frozen -/
theorem Rep.freezeNew {K : PySem.W.Frag} {B : Bs} {L : Env} {σ : St} {H : Hp} {a : Addr} {vs : List V} {xs : List D} {ob : Obj} (R : Rep K B L σ H) (ha : H a = some (.lst vs)) (hr : RpA K H vs xs) (nl : ¬ Live L σ a) (nb : B.H a = none) :
    Rep K B L σ (upd H a (.frz ob (.lst vs))) ∧ Mo H (upd H a (.frz ob (.lst vs))) ∧ Rp K (upd H a (.frz ob (.lst vs))) (.ref a) (.lst xs) := by
  have mo : Mo H (upd H a (.frz ob (.lst vs))) := by
    refine ⟨fun b ys h => ?_, fun b o u h => ?_⟩
    · rw [upd_ne]; exact h
      rintro rfl; rw [ha] at h; cases h
    · rw [upd_ne]; exact h
      rintro rfl; rw [ha] at h; cases h
  refine ⟨⟨R.len, fun b o h n => ?_, fun i t o h1 h2 => ?_, R.inj, R.pars⟩, mo, .lst ⟨ob, upd_same⟩ (hr.mo mo)⟩
  · rw [upd_ne]; exact R.base b o h n
    rintro rfl; rw [h] at nb; cases nb
  · have q := R.slot i t o h1 h2
    cases t with
    | emp => trivial
    | val d => obtain ⟨v, e, r⟩ := q; exact ⟨v, e, r.mo mo⟩
    | liv c =>
      obtain ⟨b, e, z, r⟩ := q
      refine ⟨b, e, z, r.at mo (upd_ne ?_)⟩
      rintro rfl; subst e; exact nl ⟨i, _, h1, rfl, h2⟩
    | par c =>
      obtain ⟨b, e, z, r⟩ := q
      refine ⟨b, e, z, r.at mo (upd_ne ?_)⟩
      rintro rfl; subst e; exact nl ⟨i, _, h1, rfl, h2⟩
theorem Rep.newNotLive {K : PySem.W.Frag} {B : Bs} {L L' : Env} {σ : St} {H : Hp} {a : Addr} (R : Rep K B L σ H) (n : H a = none) (ls : LSub L L') : ¬ Live L' σ a := fun l => by
  obtain ⟨c, q⟩ := R.liveAt (l.sub ls)
  obtain ⟨o, e, _⟩ := q.some
  rw [n] at e; cases e
theorem je_fz (h : JO Γ e eo) : JE Γ e (eFz eo) := by
  refine ⟨h.ns, fun X f => pe_mono (pe_fz (h.run X f)) fun σ H Q hq => ?_⟩
  obtain ⟨B, L, d, L', R, e, q⟩ := hq
  unfold eFz at e
  split at e
  · rename_i xs L1 e1
    cases e
    refine ⟨B, L, _, _, R, e1, fun a H' R' st ls n r => ?_⟩
    obtain ⟨vs, h1, h2⟩ := r
    refine .inr ⟨a, vs, h1, fun o => ?_⟩
    have nl := R.newNotLive n ls
    obtain ⟨R2, mo, r2⟩ := R'.freezeNew (ob := o) h1 h2 nl (R.fresh n)
    refine q _ _ R2 ⟨fun b u hb hn => ?_, fun b hb => st.dom b (upd_dom hb)⟩ ls r2
    rw [upd_ne]; exact st.keep b u hb hn
    rintro rfl; rw [n] at hb; cases hb
  · cases e
end

/-! ### operators -/
/-- what an operator gives, by plain data -/
structure Op2 (Γ : Gm) (f : Value → Value → Sem Value) (g : D → D → Option D) : Prop where
  run : ∀ X, Fits Γ X → ∃ r : R2, OpR X f r ∧ ∀ x y d, g x y = some d → ∀ v u H Q, Rp X.K H v x → Rp X.K H u y → (∀ w H', Same H H' → Rp X.K H' w d → Q w H') → r v u H Q
section
variable {Γ : Gm} {pos : Pos} {a b c : Expr} {ea eb ec : EV}
def eOp (g : D → D → Option D) (ea eb : EV) : EV := fun L => (ea L).bind fun p => (eb p.2).bind fun q => (g p.1 q.1).map fun d => (d, q.2)
theorem eOp_some {g : D → D → Option D} {L L' : Env} {d : D} (h : eOp g ea eb L = some (d, L')) : ∃ x L1 y, ea L = some (x, L1) ∧ eb L1 = some (y, L') ∧ g x y = some d := by
  unfold eOp at h
  obtain ⟨⟨x, L1⟩, h1, h⟩ := Option.bind_eq_some_iff.mp h
  obtain ⟨⟨y, L2⟩, h2, h⟩ := Option.bind_eq_some_iff.mp h
  obtain ⟨d', h3, h⟩ := Option.map_eq_some_iff.mp h
  cases h
  exact ⟨x, L1, y, h1, h2, h3⟩
theorem tOp_of {K : PySem.W.Frag} {r : R2} {g : D → D → Option D} (hr : ∀ x y d, g x y = some d → ∀ v u H Q, Rp K H v x → Rp K H u y → (∀ w H', Same H H' → Rp K H' w d → Q w H') → r v u H Q) :
    ∀ σ H Q, tV K (eOp g ea eb) σ H Q → tOp r (tV K ea) (tV K eb) σ H Q := fun σ H Q h => by
  obtain ⟨B, L, d, L', R, e, q⟩ := h
  obtain ⟨x, L1, y, h1, h2, h3⟩ := eOp_some e
  refine ⟨B, L, x, L1, R, h1, fun v H1 R1 s1 l1 r1 => ⟨B, L1, y, L', R1, h2, fun u H2 R2 s2 l2 r2 => ?_⟩⟩
  have mo := R1.mo s2
  exact hr x y d h3 v u H2 _ (r1.mo mo) r2 fun w H3 sm r3 => q w H3 (R2.grow sm) ((s1.trans l1 s2).trans (l1.trans l2) (.of_same sm)) (l1.trans l2) r3
theorem je_op {op : Operator} {g : D → D → Option D} (ho : Op2 Γ (binaryOp op) g) (ha : JE Γ a ea) (hb : JE Γ b eb) : JE Γ (.BinOp a op b pos) (eOp g ea eb) := by
  refine ⟨fun _ _ => rfl, fun X f => ?_⟩
  obtain ⟨r, h1, h2⟩ := ho.run X f
  exact pe_mono (pe_op h1 (ha.run X f) (hb.run X f)) (tOp_of h2)
theorem je_cmp {op : CmpOp} {g : D → D → Option D} (ho : Op2 Γ (compareOp op) g) (ha : JE Γ a ea) (hb : JE Γ b eb) (hm : behindInMarks op b = false) : JE Γ (.Compare a [op] [b] pos) (eOp g ea eb) := by
  refine ⟨fun _ _ => rfl, fun X f => ?_⟩
  obtain ⟨r, h1, h2⟩ := ho.run X f
  exact pe_mono (pe_cmpR h1 (ha.run X f) (hb.run X f) hm) (tOp_of h2)
def etB (ev : EV) : ET := fun L => match ev L with
  | some (.bl b, L') => some (b, L')
  | _ => none
theorem etB_some {ev : EV} {L L' : Env} {b : Bool} (h : etB ev L = some (b, L')) : ev L = some (.bl b, L') := by
  unfold etB at h
  split at h
  · rename_i b' L1 e; cases h; exact e
  · cases h
theorem jt_cmp {op : CmpOp} {g : D → D → Option D} (ho : Op2 Γ (compareOp op) g) (ha : JE Γ a ea) (hb : JE Γ b eb) (hm : behindInMarks op b = false) : JT Γ (.Compare a [op] [b] pos) (etB (eOp g ea eb)) := by
  refine ⟨fun X f => ?_⟩
  obtain ⟨r, h1, h2⟩ := ho.run X f
  refine pt_mono (pt_cmpR h1 (ha.run X f) (hb.run X f) hm) fun σ H Q h => ?_
  obtain ⟨B, L, d, L', R, e, q⟩ := h
  refine tOp_of h2 σ H _ ⟨B, L, _, _, R, etB_some e, fun v H' R' s l r => ?_⟩
  exact ⟨d, r.bl_of, q H' R' s l⟩
/-- a value that is a truth value, as a test; the expression is no test of its own form -/
theorem jt_val (ha : JE Γ a ea) (he : ∀ env whole, isTrue a env whole = (do let v ← whole; standAt a.pos; holding [v] (truthy v))) : JT Γ a (etB ea) := by
  refine ⟨fun X f => pt_mono (pt_val (ha.run X f) fun w => he _ w) fun σ H Q h => ?_⟩
  obtain ⟨B, L, d, L', R, e, q⟩ := h
  exact ⟨B, L, _, _, R, etB_some e, fun v H' R' s l r => ⟨d, r.bl_of, q H' R' s l⟩⟩
end
/-! ### and, or, not, if-else -/
section
variable {Γ : Gm} {pos : Pos} {a b c : Expr} {rest : List Expr} {ea eb ec : EV} {ta tb tc : ET}
theorem JW.jt (h : JW Γ a ta) : JT Γ a ta := ⟨fun X f => (h.run X f).pt⟩
def tAn (ta tb : ET) : ET := fun L => (ta L).bind fun p => if p.1 = true then tb p.2 else some (false, p.2)
def tOr' (ta tb : ET) : ET := fun L => (ta L).bind fun p => if p.1 = true then some (true, p.2) else tb p.2
def tNo (ta : ET) : ET := fun L => (ta L).map fun p => (!p.1, p.2)
theorem jw_and1 (h : JT Γ a ta) : JW Γ (.BoolOp .And [a] pos) ta := ⟨fun X f => pw_and1 (h.run X f)⟩
theorem jw_or1 (h : JT Γ a ta) : JW Γ (.BoolOp .Or [a] pos) ta := ⟨fun X f => pw_or1 (h.run X f)⟩
theorem jw_and (ha : JT Γ a ta) (hb : JW Γ (.BoolOp .And (b :: rest) pos) tb) : JW Γ (.BoolOp .And (a :: b :: rest) pos) (tAn ta tb) := by
  refine ⟨fun X f => pw_mono (pw_and (ha.run X f) (hb.run X f)) fun σ H Q h => ?_⟩
  obtain ⟨B, L, d, L', R, e, q⟩ := h
  obtain ⟨⟨x, L1⟩, h1, h2⟩ := Option.bind_eq_some_iff.mp e
  refine ⟨B, L, x, L1, R, h1, fun H1 R1 s1 l1 => ?_⟩
  cases x with
  | true => exact iteT ⟨B, L1, d, L', R1, by simpa using h2, fun H2 R2 s2 l2 => q H2 R2 (s1.trans l1 s2) (l1.trans l2)⟩
  | false => exact iteF (by simp at h2; obtain ⟨rfl, rfl⟩ := h2; exact q H1 R1 s1 l1)
theorem jw_or (ha : JT Γ a ta) (hb : JW Γ (.BoolOp .Or (b :: rest) pos) tb) : JW Γ (.BoolOp .Or (a :: b :: rest) pos) (tOr' ta tb) := by
  refine ⟨fun X f => pw_mono (pw_or (ha.run X f) (hb.run X f)) fun σ H Q h => ?_⟩
  obtain ⟨B, L, d, L', R, e, q⟩ := h
  obtain ⟨⟨x, L1⟩, h1, h2⟩ := Option.bind_eq_some_iff.mp e
  refine ⟨B, L, x, L1, R, h1, fun H1 R1 s1 l1 => ?_⟩
  cases x with
  | false => exact iteF ⟨B, L1, d, L', R1, by simpa using h2, fun H2 R2 s2 l2 => q H2 R2 (s1.trans l1 s2) (l1.trans l2)⟩
  | true => exact iteT (by simp at h2; obtain ⟨rfl, rfl⟩ := h2; exact q H1 R1 s1 l1)
theorem jt_not (ha : JT Γ a ta) : JT Γ (.UnaryOp .Not a pos) (tNo ta) := by
  refine ⟨fun X f => pt_mono (pt_not (ha.run X f)) fun σ H Q h => ?_⟩
  obtain ⟨B, L, d, L', R, e, q⟩ := h
  obtain ⟨⟨x, L1⟩, h1, h2⟩ := Option.map_eq_some_iff.mp e
  cases h2
  exact ⟨B, L, x, L1, R, h1, fun H1 R1 s1 l1 => q H1 R1 s1 l1⟩
def eIf (tc : ET) (ea eb : EV) : EV := fun L => (tc L).bind fun p => if p.1 = true then ea p.2 else eb p.2
theorem je_if (hc : JT Γ c tc) (ha : JE Γ a ea) (hb : JE Γ b eb) : JE Γ (.IfExp c a b pos) (eIf tc ea eb) := by
  refine ⟨fun _ _ => rfl, fun X f => pe_mono (pe_ifExp (hc.run X f) (ha.run X f) (hb.run X f)) fun σ H Q h => ?_⟩
  obtain ⟨B, L, d, L', R, e, q⟩ := h
  obtain ⟨⟨x, L1⟩, h1, h2⟩ := Option.bind_eq_some_iff.mp e
  refine ⟨B, L, x, L1, R, h1, fun H1 R1 s1 l1 => ?_⟩
  cases x with
  | true => exact iteT ⟨B, L1, d, L', R1, by simpa using h2, fun v H2 R2 s2 l2 r2 => q v H2 R2 (s1.trans l1 s2) (l1.trans l2) r2⟩
  | false => exact iteF ⟨B, L1, d, L', R1, by simpa using h2, fun v H2 R2 s2 l2 r2 => q v H2 R2 (s1.trans l1 s2) (l1.trans l2) r2⟩
/-- .. as values: all but the last truth values -/
def eAnd (ea eb : EV) : EV := fun L => match ea L with
  | some (.bl true, L1) => eb L1
  | some (.bl false, L1) => some (.bl false, L1)
  | _ => none
def eOr (ea eb : EV) : EV := fun L => match ea L with
  | some (.bl false, L1) => eb L1
  | some (.bl true, L1) => some (.bl true, L1)
  | _ => none
def eNot (ea : EV) : EV := fun L => match ea L with
  | some (.bl b, L1) => some (.bl (!b), L1)
  | _ => none
theorem je_one {op} (h : JE Γ a ea) : JE Γ (.BoolOp op [a] pos) ea := ⟨fun _ _ => rfl, fun X f => pe_one (h.run X f)⟩
theorem je_and (ha : JE Γ a ea) (hb : JE Γ (.BoolOp .And (b :: rest) pos) eb) : JE Γ (.BoolOp .And (a :: b :: rest) pos) (eAnd ea eb) := by
  refine ⟨fun _ _ => rfl, fun X f => pe_mono (pe_and (ha.run X f) (hb.run X f)) fun σ H Q h => ?_⟩
  obtain ⟨B, L, d, L', R, e, q⟩ := h
  unfold eAnd at e
  split at e
  · rename_i L1 e1
    exact ⟨B, L, _, L1, R, e1, fun v H1 R1 s1 l1 r1 => ⟨true, r1.bl_of, iteT ⟨B, L1, d, L', R1, e, fun v H2 R2 s2 l2 r2 => q v H2 R2 (s1.trans l1 s2) (l1.trans l2) r2⟩⟩⟩
  · rename_i L1 e1
    cases e
    exact ⟨B, L, _, _, R, e1, fun v H1 R1 s1 l1 r1 => ⟨false, r1.bl_of, iteF (q _ H1 R1 s1 l1 (.bl false))⟩⟩
  · cases e
theorem je_or (ha : JE Γ a ea) (hb : JE Γ (.BoolOp .Or (b :: rest) pos) eb) : JE Γ (.BoolOp .Or (a :: b :: rest) pos) (eOr ea eb) := by
  refine ⟨fun _ _ => rfl, fun X f => pe_mono (pe_or (ha.run X f) (hb.run X f)) fun σ H Q h => ?_⟩
  obtain ⟨B, L, d, L', R, e, q⟩ := h
  unfold eOr at e
  split at e
  · rename_i L1 e1
    exact ⟨B, L, _, L1, R, e1, fun v H1 R1 s1 l1 r1 => ⟨false, r1.bl_of, iteF ⟨B, L1, d, L', R1, e, fun v H2 R2 s2 l2 r2 => q v H2 R2 (s1.trans l1 s2) (l1.trans l2) r2⟩⟩⟩
  · rename_i L1 e1
    cases e
    exact ⟨B, L, _, _, R, e1, fun v H1 R1 s1 l1 r1 => ⟨true, r1.bl_of, iteT (q _ H1 R1 s1 l1 (.bl true))⟩⟩
  · cases e
theorem je_not (ha : JE Γ a ea) : JE Γ (.UnaryOp .Not a pos) (eNot ea) := by
  refine ⟨fun _ _ => rfl, fun X f => pe_mono (pe_not (ha.run X f)) fun σ H Q h => ?_⟩
  obtain ⟨B, L, d, L', R, e, q⟩ := h
  unfold eNot at e
  split at e
  · rename_i b L1 e1
    cases e
    exact ⟨B, L, _, _, R, e1, fun v H1 R1 s1 l1 r1 => ⟨b, r1.bl_of, q _ H1 R1 s1 l1 (.bl _)⟩⟩
  · cases e
end
end DD

end
section
set_option Elab.async false
set_option linter.all false
set_option maxRecDepth 100000
set_option maxHeartbeats 4000000
/-! DSet: sets of ints or of texts, made of a text or a list, sorted, counted. -/
namespace DD
open PySem PySem.Spec PyProof.Rows L2

/-- the keys that a set may hold here -/
structure KSet (P : Program) (w : World) (κ : Type) [DecidableEq κ] where
  knd : PySem.KeyKind P w κ
  kf : Value → κ
  is_kf : ∀ k v, knd.is k v = true → kf v = k
  scan : ∀ k v, knd.is k v = true → v.scannable = true
section
variable {P : Program} {w : World} {κ : Type} [DecidableEq κ] (Z : KSet P w κ)
def KSet.Good (e : Int × Value) : Prop := ∃ k, Z.knd.is k e.2 = true ∧ e.1 = Z.knd.hash k
def KSet.key (e : Int × Value) : κ := Z.kf e.2
/-- the set at a of the different keys ks -/
def SetG (h : Heap) (a : Addr) (ks : List κ) : Prop :=
  ∃ o es ep t, h.get? a = some o ∧ o.ExactSet ∧ o.data = .set es ep t ∧ (∀ e ∈ es.toList, Z.Good e) ∧ (es.toList.map Z.key).Perm ks ∧ ks.Nodup ∧
    es.size < scanBound ∧ t.fits es.size = true ∧ Ris t.place.toList ∧ (w.params.followText "set-order" = true ∨ t.led = true)
variable {Z}
theorem KSet.Good.is_iff {e : Int × Value} (g : Z.Good e) (k : κ) : Z.knd.is k e.2 = true ↔ Z.key e = k := by
  obtain ⟨k0, h1, _⟩ := g
  constructor
  · intro h; exact Z.is_kf k e.2 h
  · intro h
    have : k0 = k := (Z.is_kf k0 e.2 h1).symm.trans h
    subst this; exact h1
theorem KSet.elems {l : List (Int × Value)} (g : ∀ e ∈ l, Z.Good e) : ElemsOf Z.knd l := fun e he => by
  obtain ⟨k, h1, h2⟩ := g e he
  exact ⟨⟨k, h1, h2⟩, Z.scan k e.2 h1⟩
theorem SetG.at {h h' : Heap} {a : Addr} {ks : List κ} (R : SetG Z h a ks) (k : ∀ o, h.get? a = some o → h'.get? a = some o) : SetG Z h' a ks := by
  obtain ⟨o, es, ep, t, ho, r⟩ := R
  exact ⟨o, es, ep, t, k o ho, r⟩
def addK (ks : List κ) (k : κ) : List κ := if k ∈ ks then ks else ks ++ [k]
section
variable {A : Around} {E : Value → Shared → Prop} {s : Shared} {a : Addr} {ks : List κ}
theorem setG_tail {g : Bool → Sem Unit} (hg : ∀ (b : Bool) (s₁ : Shared) (Q' : Unit → Shared → Prop), Q' () s₁ → wpAny (model P w) A (g b) Q' E s₁)
    {o : Obj} {es : Array (Int × Value)} {ep : Nat} {t : SetTable} (ho : s.heap.get? a = some o) (hex : o.ExactSet) (hd : o.data = .set es ep t)
    {es1 : Array (Int × Value)} {t2 : SetTable} {ks' : List κ} (g1 : ∀ e ∈ es1.toList, Z.Good e) (pm1 : (es1.toList.map Z.key).Perm ks') (nd1 : ks'.Nodup)
    (hb1 : es1.size < scanBound) (hf2 : t2.fits es1.size = true) (hr : Ris t2.place.toList) (hl : w.params.followText "set-order" = true ∨ t2.led = true) {wasDummy : Bool} {R : Option Bool → Shared → Prop}
    (hR : ∀ h', Heap.SameBut a s.heap h' → SetG Z h' a ks' → R (some true) { s with heap := h' }) :
    wpAny (model P w) A (do
        storeSet a es1 t2
        if (!wasDummy && t2.tooFull) = true then do
            g (relayAll t2 es1 (SetTable.grown es1.size)).2.2
            storeSet a (relayAll t2 es1 (SetTable.grown es1.size)).1 (relayAll t2 es1 (SetTable.grown es1.size)).2.1
            pure (some true)
          else pure (some true)) R E s := by
  have ho1 := store_at (es' := es1) (t' := t2) ho hd
  have sb1 := Heap.SameBut.update s.heap a (Obj.putSet es1 t2)
  refine wpAny_bind (wpAny_storeSet_of ho hd ?_ (fits_of_scanBound hb1))
  by_cases full : (!wasDummy && t2.tooFull) = true
  · rw [if_pos full]
    obtain ⟨hr3, hl3⟩ : Ris (relayAll t2 es1 (SetTable.grown es1.size)).2.1.place.toList ∧ (relayAll t2 es1 (SetTable.grown es1.size)).2.1.led = t2.led := ⟨relayAll_ris .., relayAll_led ..⟩
    have pm := relayAll_perm t2 es1 (SetTable.grown es1.size)
    have hf3 := relayAll_fits t2 es1 (SetTable.grown es1.size)
    revert pm hf3 hr3 hl3
    generalize relayAll t2 es1 (SetTable.grown es1.size) = Y
    obtain ⟨es2, t3, gave⟩ := Y
    intro hr3 hl3 pm hf3
    have hsz : es2.size = es1.size := by rw [← Array.length_toList, pm.length_eq, Array.length_toList]
    have hb2 : es2.size < scanBound := hsz ▸ hb1
    refine wpAny_bind (hg _ _ _ (wpAny_bind (wpAny_storeSet_of ho1 rfl ?_ (fits_of_scanBound hb2))))
    have ho2 := store_at (es' := es2) (t' := t3) ho1 rfl
    refine wpAny_pure (hR _ (sb1.trans (Heap.SameBut.update _ a _)) ⟨_, es2, _, t3, ho2, hex, rfl, fun e he => g1 e (pm.mem_iff.mp he), (pm.map Z.key).trans pm1, nd1, hb2, hf3, hr3, ?_⟩)
    rcases hl with z | z
    · exact .inl z
    · exact .inr (hl3.trans z)
  · rw [if_neg full]
    exact wpAny_pure (hR _ sb1 ⟨_, es1, _, t2, ho1, hex, rfl, g1, pm1, nd1, hb1, hf2, hr, hl⟩)
theorem setG_add {k : κ} {v : Value} {Q : Bool → Shared → Prop} (hkey : Z.knd.is k v = true) (R : SetG Z s.heap a ks) (room : ks.length + 1 < scanBound)
    (hQ : ∀ b h', Heap.SameBut a s.heap h' → SetG Z h' a (addK ks k) → Q b { s with heap := h' }) :
    wpAny (model P w) A (setAddHashed a v (Z.knd.hash k)) Q E s := by
  obtain ⟨o, es, ep, t, ho, hex, hd, g, pm0, nd, hb, hf, hr, hl⟩ := R
  have hsc : v.scannable = true := Z.scan k v hkey
  have hel : ElemsOf Z.knd es.toList := Z.elems g
  have hn : es.size = ks.length := by rw [← pm0.length_eq, List.length_map, Array.length_toList]
  unfold setAddHashed setAddHashedIn
  refine wpAny_holding (wpAny_bind (wpAny_setState_of ho hd hf ?_))
  dsimp only
  rw [byScan_of hsc hb hel]
  simp only [↓reduceIte]
  unfold setAddByScan
  refine wpAny_bind (wpAny_bind (wpAny_rule (wpAny_bind (wpAny_setScan_of hkey ho hd hf hel ?_))))
  have gw : ∀ (b : Bool) {s₁ : Shared} {Q' : Unit → Shared → Prop}, Q' () s₁ → wpAny (model P w) A (match b with | true => rule "set.scan.the-table-gave-way" | false => pure ()) Q' E s₁ :=
    fun b s₁ Q' q => by
      cases b
      · exact wpAny_pure q
      · exact wpAny_rule q
  cases hfi : List.findIdx? (fun e => Z.knd.is k e.2) es.toList with
  | some j =>
    obtain ⟨hj, pj, _⟩ := List.findIdx?_eq_some_iff_getElem.mp hfi
    have hmem : es.toList[j] ∈ es.toList := List.getElem_mem hj
    have hk : k ∈ ks := pm0.mem_iff.mp (List.mem_map.mpr ⟨_, hmem, ((g _ hmem).is_iff k).mp pj⟩)
    refine wpAny_pure (wpAny_pure (hQ _ s.heap (Heap.SameBut.refl a s.heap) ?_))
    unfold addK
    rw [if_pos hk]
    exact ⟨o, es, ep, t, ho, hex, hd, g, pm0, nd, hb, hf, hr, hl⟩
  | none =>
    have hnk : k ∉ ks := fun z => by
      obtain ⟨e, he, q⟩ := List.mem_map.mp (pm0.mem_iff.mpr z)
      have c := List.findIdx?_eq_none_iff.mp hfi e he
      rw [((g e he).is_iff k).mpr q] at c
      cases c
    obtain ⟨hr1, hl1⟩ := (⟨layNew_ris t es (Z.knd.hash k) v hr, layNew_led t es (Z.knd.hash k) v⟩ : Ris (layNew t es (Z.knd.hash k) v).2.1.place.toList ∧ _)
    have pm := layNew_perm t es (Z.knd.hash k) v
    have hf1 := layNew_fits t es (Z.knd.hash k) v
    revert pm hf1 hr1 hl1
    generalize layNew t es (Z.knd.hash k) v = Y
    obtain ⟨es1, t1, wasDummy, gave⟩ := Y
    intro hr1 hl1 pm hf1
    dsimp only at pm hf1 hr1 hl1 ⊢
    rw [Array.toList_push] at pm
    have kk : Z.key (Z.knd.hash k, v) = k := Z.is_kf k v hkey
    have pk : (es1.toList.map Z.key).Perm (ks ++ [k]) := by
      have q := pm.map Z.key
      rw [List.map_append, List.map_singleton, kk] at q
      exact q.trans (pm0.append_right [k])
    have g1 : ∀ e ∈ es1.toList, Z.Good e := fun e he => by
      rcases List.mem_append.mp (pm.mem_iff.mp he) with z | z
      · exact g e z
      · rw [List.mem_singleton.mp z]; exact ⟨k, hkey, rfl⟩
    have nd1 : (ks ++ [k]).Nodup := by
      rw [List.nodup_append]
      exact ⟨nd, by simp, fun x hx y hy e => hnk (by rw [← List.mem_singleton.mp hy, ← e]; exact hx)⟩
    have hb1 : es1.size < scanBound := by
      have q := pm.length_eq
      rw [Array.length_toList, List.length_append, Array.length_toList, hn] at q
      simp only [List.length_singleton] at q
      rw [q]; exact room
    have hled : w.params.followText "set-order" = true ∨ t1.led = true := by
      rcases hl with z | z
      · exact .inl z
      · exact .inr (hl1.trans z)
    have fin : ∀ h', Heap.SameBut a s.heap h' → SetG Z h' a (ks ++ [k]) → Q true { s with heap := h' } := fun h' sb r => hQ _ h' sb (by unfold addK; rw [if_neg hnk]; exact r)
    refine wpAny_bind (gw _ ?_)
    split
    · refine wpAny_bind ?_
      rw [hashByValue_scannable 8 hsc]
      refine wpAny_pure (setG_tail (fun b s₁ Q' q => ?_) ho hex hd g1 pk nd1 hb1 ?_ ?_ ?_ fun h' sb r => wpAny_pure (fin h' sb r))
      · cases b
        · exact wpAny_pure q
        · exact wpAny_rule q
      · first | (split <;> first | exact hf1 | exact SetTable.fits_plain_off hf1) | exact hf1
      · first | (split <;> exact hr1) | exact hr1
      · first | (split <;> exact hled) | exact hled
    · refine wpAny_bind (wpAny_pure ?_)
      simp only [↓reduceIte]
      refine setG_tail (fun b s₁ Q' q => ?_) ho hex hd g1 pk nd1 hb1 hf1 hr1 hled fun h' sb r => wpAny_pure (fin h' sb r)
      cases b
      · exact wpAny_pure q
      · exact wpAny_rule q
theorem setG_fresh {h : Heap} {a : Addr} (ho : h.get? a = some { cls := .type "set", dict := none, data := .set #[] 0 (.fresh 0 0 (!w.params.followText "set-order")) }) : SetG Z h a [] :=
  ⟨_, #[], 0, _, ho, ⟨rfl, rfl, rfl⟩, rfl, (fun e he => by simp at he), .refl _, .nil, (by decide), (by rfl), List.Pairwise.nil, by
    show _ ∨ (!w.params.followText "set-order") = true
    cases w.params.followText "set-order"
    · exact .inr rfl
    · exact .inl rfl⟩
/-- the loop that fills a set -/
theorem setG_loop {I : Addr} {fp wr : List Addr} {G : Array GenState → Array GenState → Prop} {n : Nat} {Pv : Nat → Value → Prop} {St : Nat → Shared → Prop} {R : Result → Shared → Prop}
    (W : WalksS P w A.in1 I fp wr G n Pv St) (S : Addr) (hSf : S ∉ fp) (src : List κ) (hn : n = src.length) (hfew : src.length + 1 < scanBound) (hval : ∀ i v, Pv i v → ∃ k, src[i]? = some k ∧ Z.knd.is k v = true) :
    ∀ (m i : Nat) (s : Shared), n - i = m → i ≤ n → St i s → SetG Z s.heap S ((src.take i).foldl addK []) →
      (∀ s', Moved (S :: wr) G s s' → SetG Z s'.heap S (src.foldl addK []) → R (.ok (.ret .none)) s') →
      codeAny (model P w) A (.builtin "set.update.loop" ⟨[.ref S, .ref I], []⟩) R s := by
  have hSw : S ∉ wr := fun h => hSf (W.sub _ h)
  have hsub : ∀ b ∈ wr, b ∈ S :: wr := fun b hb => List.mem_cons_of_mem _ hb
  have few : ∀ (l : List κ) (acc : List κ), (l.foldl addK acc).length ≤ acc.length + l.length := by
    intro l
    induction l with
    | nil => intro acc; exact Nat.le_refl _
    | cons x r ih =>
      intro acc
      have := ih (addK acc x)
      have h2 : (addK acc x).length ≤ acc.length + 1 := by
        unfold addK; split
        · exact Nat.le_succ _
        · rw [List.length_append]; exact Nat.le_refl _
      simp only [List.foldl_cons, List.length_cons]
      omega
  intro m
  induction m with
  | zero =>
    intro i s hk hi hst hS hR
    have hin : i = n := by omega
    subst hin
    refine codeAny_builtin PyProof.Rows.F.entry_set_update_loop ?_
    rw [Around.under_plainId PyProof.Rows.F.plain_set_update_loop _]
    show wpAny _ A.in1 (pyNext (.ref I) >>= _) _ _ s
    refine wpAny_bind (W.done s _ _ hst fun s' hm => ?_)
    rw [hn, List.take_length] at hS
    exact wpAny_pure (hR s' (hm.mono hsub) (hS.at fun o e => hm.heap S o hSw e))
  | succ m ih =>
    intro i s hk hi hst hS hR
    have hlt : i < n := by omega
    refine codeAny_builtin PyProof.Rows.F.entry_set_update_loop ?_
    rw [Around.under_plainId PyProof.Rows.F.plain_set_update_loop _]
    show wpAny _ A.in1 (pyNext (.ref I) >>= _) _ _ s
    refine wpAny_bind (W.item i s _ _ hlt hst fun v s' hP hst' hm => ?_)
    obtain ⟨k, hk1, hk2⟩ := hval i v hP
    have hS' : SetG Z s'.heap S ((src.take i).foldl addK []) := hS.at fun o e => hm.heap S o hSw e
    show wpAny _ A.in1 (holding [v] (setAdd S v) >>= _) _ _ s'
    refine wpAny_bind (wpAny_holding ?_)
    unfold setAdd
    refine wpAny_holding (wpAny_bind (Z.knd.pyHash hk2 ?_))
    have len := few (src.take i) []
    rw [List.length_take, List.length_nil] at len
    refine setG_add (s := { s' with toks := s'.toks + 1 }) hk2 hS' (by omega) fun b h' hsb hS2 => ?_
    have en : (src.take (i + 1)).foldl addK [] = addK ((src.take i).foldl addK []) k := by
      rw [List.take_add_one, hk1]
      simp
    rw [← en] at hS2
    refine wpAny_pure ⟨plainId_quiet PyProof.Rows.F.plain_set_update_loop _, ih (i + 1) _ (by omega) hlt (W.frame _ s' _ _ hst' (Nat.le_succ _) fun b hb o e => ?_) hS2 fun s'' hm'' hS'' => ?_⟩
    · rw [hsb.2 b (fun z : b = S => hSf (by rw [← z]; exact hb))]; exact e
    · refine hR s'' (Moved.trans W.gtrans ((hm.mono hsub).then_heap (Nat.le_succ _) fun b o hb e => ?_) hm'') hS''
      rw [hsb.2 b (fun z : b = S => hb (by rw [z]; exact List.mem_cons_self))]; exact e
end
end
section
variable {P : Program} {w : World} {A : Around} {E : Value → Shared → Prop} {s : Shared}
def zStr (P : Program) (w : World) : KSet P w Str where
  knd := PySem.strKind P w
  kf := fun v => match v with
    | .str x _ => x
    | _ => Str.empty
  is_kf := fun k v h => by obtain ⟨t, rfl⟩ := Value.isStrOf_shape h; rfl
  scan := fun k v h => by obtain ⟨t, rfl⟩ := Value.isStrOf_shape h; rfl
def zInt (P : Program) (w : World) : KSet P w Int where
  knd := PySem.intKind P w
  kf := fun v => match v with
    | .int x _ => x
    | _ => 0
  is_kf := fun k v h => by obtain ⟨t, rfl⟩ := Value.isInt_shape h; rfl
  scan := fun k v h => by obtain ⟨t, rfl⟩ := Value.isInt_shape h; rfl

abbrev newSet (w : World) : Obj := { cls := .type "set", dict := none, data := .set #[] 0 (.fresh 0 0 (!w.params.followText "set-order")) }
theorem fresh_of {h : Heap} {b : Addr} (hb : h.objs.size ≤ b) : h.get? b = none := Heap.get?_none_of_le hb
set_option maxRecDepth 100000 in
set_option maxHeartbeats 8000000 in
/-- set(x), x a text -/
theorem call_set_str {Z : KSet P w Str} (hz : Z.knd = PySem.strKind P w) {x : Str} {t : Tok} {Q : Value → Shared → Prop} (hh : A.handled = none) (hfew : x.cps.size + 1 < scanBound)
    (h : ∀ (h' : Heap) (tk : Nat), SetG Z h' s.heap.objs.size ((x.cps.toList.map fun c => (⟨#[c]⟩ : Str)).foldl addK []) → (∀ b o, s.heap.get? b = some o → h'.get? b = some o) → Q (.ref s.heap.objs.size) { s with heap := h', toks := tk }) :
    wpAny (model P w) A (call (.type "set") [.str x t]) Q E s := by
  have hisz : x.cps.size = (x.cps.toList.map fun c => (⟨#[c]⟩ : Str)).length := by rw [List.length_map, Array.length_toList]
  obtain ⟨c, tl, hmro⟩ := PySem.F.called_set.mro
  have hmade := PySem.F.called_set.made
  have hsub := PySem.F.called_set.sub
  refine wpAny_call (codeAny_of_tree ?_)
  show wpAny _ _ (callAny (.type "set") _) _ _ _
  refine wpAny_pure ⟨Code.quiet_builtin _ (by decide +kernel), codeAny_builtin PySem.F.entry_type_call ?_⟩
  rw [Around.under_plain (weight_type_call_type "set" [.str x t] []) rfl]
  have h1 := PySem.F.called_set.notType
  have h2 := PySem.F.called_set.canCreate
  have hct := PySem.F.typeCall_set_1 (.str x t)
  repeat (any_goals (first | assumption | wp_step))

  refine codeAny_mono (code_set_led1 (.str x t) (E := E) (Q₁ := fun obj s₁ => obj = .ref s.heap.objs.size ∧ s₁ = { s with heap := s.heap.push (newSet w) }) ⟨rfl, rfl⟩) fun r s₁ hr => ?_
  cases r with
  | error e => exact hr
  | ok fl =>
    cases fl with
    | ret obj =>
      obtain ⟨rfl, rfl⟩ := hr
      have hS : (s.heap.push (newSet w)).get? s.heap.objs.size = some (newSet w) := Heap.get?_push_size _ rfl
      have hT : Shared.TypeIs { s with heap := s.heap.push (newSet w) } (.ref s.heap.objs.size) "set" := ⟨_, hS, rfl⟩
      have hli := PySem.F.called_set.init.lookup
      have hbi := PySem.F.called_set.init.bind (.ref s.heap.objs.size)
      repeat (any_goals (first | assumption | wp_step))

      refine codeAny_mono (codeAny_call_builtin (R := wants (fun r s₂ => r = .none ∧ ∃ h' tk, s₂ = { s with heap := h', toks := tk } ∧ SetG Z h' s.heap.objs.size ((x.cps.toList.map fun c => (⟨#[c]⟩ : Str)).foldl addK []) ∧
          (∀ b o, s.heap.get? b = some o → h'.get? b = some o)) E) PySem.F.called_set.init.plain PySem.F.entry_set_init (check_set_init_1 hT ?_)) fun r₂ s₂ hr₂ => ?_
      · have hsls := PySem.F.sub_str_set
        have hslf := PySem.F.sub_str_frozenset
        have hne : (Value.type "str" == Value.type "dict") = false := by decide
        unfold Builtin.«set.__init__» noKeywords Builtin.Frozenset.updateFrom
        generalize hPI : pyIter = PI
        wp_walk
        subst hPI

        refine wpAny_pyIter_str fun o St W hst => ?_
        refine wpAny_bind (wpAny_runValue ?_)
        have hh3 : A.in1.in1.in1.handled = none := by simp [hh]
        have hz1 : (s.heap.push (newSet w)).objs.size = s.heap.objs.size + 1 := Heap.size_push ..
        have hSf : s.heap.objs.size ∉ [(s.heap.push (newSet w)).objs.size] := by
          rw [hz1]
          simp only [List.mem_singleton]
          exact Nat.ne_of_lt (Nat.lt_succ_self _)
        refine setG_loop (Z := Z) ((W A.in1.in1.in1 hh3).toS) s.heap.objs.size hSf _ hisz (by rw [← hisz]; exact hfew) (fun i v hv => ?_) x.cps.size 0 _ (by omega) (Nat.zero_le _) hst (setG_fresh (Heap.get?_push_of_some _ hS)) fun s' hm hS' => ?_
        · obtain ⟨c, u, e1, e2⟩ := hv
          refine ⟨⟨#[c]⟩, ?_, ?_⟩
          · rw [List.getElem?_map, Array.getElem?_toList, e1]
            rfl
          · rw [hz, e2]
            exact strKind_is _ _ _ _
        · obtain ⟨h', g2, d', tk', os'⟩ := s'
          obtain rfl : g2 = s.gens := hm.gens
          obtain rfl : d' = s.drawn := hm.drawn
          obtain rfl : os' = s.os := hm.os
          refine wpAny_pure ?_
          refine wpAny_pure ⟨rfl, h', tk', rfl, hS', fun b o e => ?_⟩
          refine hm.heap b o (fun hb => ?_) (Heap.get?_push_of_some _ (Heap.get?_push_of_some _ e))
          have hlt := Heap.lt_size e
          simp only [List.mem_cons, List.mem_singleton, List.not_mem_nil, or_false] at hb
          rcases hb with hb | hb
          · rw [hb] at hlt; exact Nat.lt_irrefl _ hlt
          · rw [hb] at hlt
            have hlt' : s.heap.objs.size + 1 < s.heap.objs.size := by rw [← hz1]; exact hlt
            omega

      · cases r₂ with
        | error e => exact hr₂
        | ok fl₂ =>
          cases fl₂ with
          | ret r =>
            obtain ⟨rfl, h', tk, rfl, hS', hk'⟩ := hr₂
            repeat (any_goals (first | assumption | wp_step))
            exact h _ _ hS' hk'
          | _ => exact hr₂.elim
    | _ => exact hr.elim
set_option maxRecDepth 100000 in
set_option maxHeartbeats 8000000 in
/-- set(xs), xs a list -/
theorem call_set_list {κ : Type} [DecidableEq κ] {Z : KSet P w κ} {l : Addr} {items : Array Value} (src : List κ) {Q : Value → Shared → Prop} (hh : A.handled = none) (hl : s.heap.IsList l items) (hlen : items.size = src.length) (hfew : src.length + 1 < scanBound)
    (hit : ∀ (i : Nat) (v : Value), items[i]? = some v → ∃ k, src[i]? = some k ∧ Z.knd.is k v = true)
    (h : ∀ (h' : Heap) (tk : Nat), SetG Z h' s.heap.objs.size (src.foldl addK []) → (∀ b o, s.heap.get? b = some o → h'.get? b = some o) → Q (.ref s.heap.objs.size) { s with heap := h', toks := tk }) :
    wpAny (model P w) A (call (.type "set") [.ref l]) Q E s := by
  obtain ⟨c, tl, hmro⟩ := PySem.F.called_set.mro
  have hmade := PySem.F.called_set.made
  have hsub := PySem.F.called_set.sub
  refine wpAny_call (codeAny_of_tree ?_)
  show wpAny _ _ (callAny (.type "set") _) _ _ _
  refine wpAny_pure ⟨Code.quiet_builtin _ (by decide +kernel), codeAny_builtin PySem.F.entry_type_call ?_⟩
  rw [Around.under_plain (weight_type_call_type "set" [.ref l] []) rfl]
  have h1 := PySem.F.called_set.notType
  have h2 := PySem.F.called_set.canCreate
  have hct := PySem.F.typeCall_set_1 (.ref l)
  repeat (any_goals (first | assumption | wp_step))

  refine codeAny_mono (code_set_led1 (.ref l) (E := E) (Q₁ := fun obj s₁ => obj = .ref s.heap.objs.size ∧ s₁ = { s with heap := s.heap.push (newSet w) }) ⟨rfl, rfl⟩) fun r s₁ hr => ?_
  cases r with
  | error e => exact hr
  | ok fl =>
    cases fl with
    | ret obj =>
      obtain ⟨rfl, rfl⟩ := hr
      have hS : (s.heap.push (newSet w)).get? s.heap.objs.size = some (newSet w) := Heap.get?_push_size _ rfl
      have hT : Shared.TypeIs { s with heap := s.heap.push (newSet w) } (.ref s.heap.objs.size) "set" := ⟨_, hS, rfl⟩
      have hli := PySem.F.called_set.init.lookup
      have hbi := PySem.F.called_set.init.bind (.ref s.heap.objs.size)
      repeat (any_goals (first | assumption | wp_step))

      refine codeAny_mono (codeAny_call_builtin (R := wants (fun r s₂ => r = .none ∧ ∃ h' tk, s₂ = { s with heap := h', toks := tk } ∧ SetG Z h' s.heap.objs.size (src.foldl addK []) ∧
          (∀ b o, s.heap.get? b = some o → h'.get? b = some o)) E) PySem.F.called_set.init.plain PySem.F.entry_set_init (check_set_init_1 hT ?_)) fun r₂ s₂ hr₂ => ?_
      · obtain ⟨ol, hol, hcl, nl, hdl⟩ := hl
        obtain ⟨ocls, odict, odata, oslots⟩ := ol
        simp only at hcl hdl
        subst hcl; subst hdl
        have hol' : (s.heap.push (newSet w)).get? l = some { cls := .type "list", dict := odict, data := .seq items nl, slots := oslots } := Heap.get?_push_of_some _ hol
        have hl1 : (s.heap.push (newSet w)).IsList l items := ⟨_, hol', rfl, nl, rfl⟩
        have hl0 : s.heap.IsList l items := ⟨_, hol, rfl, nl, rfl⟩
        have hsls := PySem.F.sub_list_set
        have hslf := PySem.F.sub_list_frozenset
        have hne : (Value.type "list" == Value.type "dict") = false := by decide
        unfold Builtin.«set.__init__» noKeywords Builtin.Frozenset.updateFrom
        generalize hPI : pyIter = PI
        wp_walk
        subst hPI

        refine wpAny_pyIter_list hl1 ?_
        refine wpAny_bind (wpAny_runValue ?_)
        have hlS : l < s.heap.objs.size := Heap.lt_size hol
        have hh3 : A.in1.in1.in1.handled = none := by simp [hh]
        have hz1 : (s.heap.push (newSet w)).objs.size = s.heap.objs.size + 1 := Heap.size_push ..
        have hneI : l ≠ (s.heap.push (newSet w)).objs.size := by
          rw [hz1]; exact Nat.ne_of_lt (Nat.lt_succ_of_lt hlS)
        have hSf : s.heap.objs.size ∉ [(s.heap.push (newSet w)).objs.size, l] := by
          rw [hz1]
          simp only [List.mem_cons, List.mem_singleton, List.not_mem_nil, or_false, not_or]
          exact ⟨Nat.ne_of_lt (Nat.lt_succ_self _), Nat.ne_of_gt hlS⟩
        refine setG_loop (Z := Z) ((Walks.list hh3 _ l hneI items).toS) s.heap.objs.size hSf src hlen hfew hit items.size 0 _ (by omega) (Nat.zero_le _)
          ⟨⟨_, Heap.get?_push_size _ rfl, rfl, rfl⟩, (hl1.push _)⟩ (setG_fresh (Heap.get?_push_of_some _ hS)) fun s' hm hS' => ?_
        obtain ⟨h', g2, d', tk', os'⟩ := s'
        obtain rfl : g2 = s.gens := hm.gens
        obtain rfl : d' = s.drawn := hm.drawn
        obtain rfl : os' = s.os := hm.os
        refine wpAny_pure ?_
        refine wpAny_pure ⟨rfl, h', tk', rfl, hS', fun b o e => ?_⟩
        refine hm.heap b o (fun hb => ?_) (Heap.get?_push_of_some _ (Heap.get?_push_of_some _ e))
        have hlt := Heap.lt_size e
        simp only [List.mem_cons, List.mem_singleton, List.not_mem_nil, or_false] at hb
        rcases hb with hb | hb
        · rw [hb] at hlt; exact Nat.lt_irrefl _ hlt
        · rw [hb] at hlt
          have hlt' : s.heap.objs.size + 1 < s.heap.objs.size := by rw [← hz1]; exact hlt
          omega

      · cases r₂ with
        | error e => exact hr₂
        | ok fl₂ =>
          cases fl₂ with
          | ret r =>
            obtain ⟨rfl, h', tk, rfl, hS', hk'⟩ := hr₂
            repeat (any_goals (first | assumption | wp_step))
            exact h _ _ hS' hk'
          | _ => exact hr₂.elim
    | _ => exact hr.elim

end
end DD

end
section
set_option Elab.async false
set_option linter.all false
set_option maxRecDepth 100000
set_option maxHeartbeats 4000000
/-! DSet2: sets of texts sorted, counted; the rules. -/
namespace DD
open PySem PySem.Spec PyProof.Rows L2
section
variable {P : Program} {w : World} {A : Around} {E : Value → Shared → Prop} {s : Shared}
/-- sorted of a set of texts -/
theorem strs_of_vals' : ∀ (l : List Value), (∀ v ∈ l, ∃ k tk, v = Value.str k tk) → StrsAre l (l.map (zStr P w).kf)
  | [], _ => .nil
  | v :: l, h => by
    obtain ⟨k, tk, rfl⟩ := h v List.mem_cons_self
    exact .cons k tk (strs_of_vals' l fun u hu => h u (List.mem_cons_of_mem _ hu))
theorem sorted_setS {a : Addr} {ks : List Str} {Q : Value → Shared → Prop} (R : SetG (zStr P w) s.heap a ks) (hh : A.handled = none)
    (hQ : ∀ s' p (out : Array Value) (c : Nat) (ss : List Str), (∀ b o, s.heap.get? b = some o → s'.heap.get? b = some o) → s'.gens = s.gens → s'.os = s.os → s.heap.objs.size ≤ p →
      s'.heap.get? p = some (seqObj "list" out c) → StrsAre out.toList ss → sortedS ss = true → ss.Perm ks → Q (.ref p) s') :
    wpAny (model P w) A (call (.builtin "sorted") [.ref a]) Q E s := by
  obtain ⟨o, es, ep, t, ho, hex, hd, g, pm0, nd, hb, hf, hr, hl⟩ := R
  refine Calls.call_function_entry PyProof.Rows.kind_sorted PyProof.Rows.plain_sorted PyProof.Rows.entry_sorted (PyProof.Rows.args_sorted1 _) ?_
  unfold Builtin.«sorted»
  refine wpAny_bind (m := checkCount "sorted" 1 1 _) (wpAny_pure ?_)
  refine wpAny_bind (collect_set (A := A.in1) hh ⟨o, ho, hex.1, hd⟩ hf hb hr hl fun s1 vs k1 hz g1 o1 pm => ?_)
  have hvl : vs.length ≤ sizeLine := by
    rw [pm.length_eq, List.length_map, Array.length_toList]
    exact fits_of_scanBound hb
  have hI : StrsAre vs (vs.map (zStr P w).kf) := strs_of_vals' vs fun v hv => by
    obtain ⟨e, he, q⟩ := List.mem_map.mp (pm.mem_iff.mp hv)
    obtain ⟨k, h1, _⟩ := g e he
    obtain ⟨tk, h1⟩ := Value.isStrOf_shape h1
    exact ⟨k, tk, by rw [← q]; exact h1⟩
  have pk : (vs.map (zStr P w).kf).Perm ks := by
    have q := pm.map (zStr P w).kf
    rw [List.map_map] at q
    exact q.trans pm0
  refine wpAny_bind (wpAny_newList ?_ hvl)
  have hoL : (s1.heap.push (seqObj "list" vs.toArray 0)).get? s1.heap.objs.size = some (seqObj "list" vs.toArray 0) := Heap.get?_push_size _ rfl
  refine wpAny_bind (wpAny_holding (wpAny_call_entry PyProof.Rows.slot_list_sort ⟨_, hoL, rfl⟩ PyProof.Rows.entry_list_sort
    (list_sort_treeKAny PyProof.Rows.strKind_oneLt hoL hI.keysOf (fun v₁ v₂ rest e => keyKind_strs (by rw [← e]; exact hI)) hvl fun st' hp hs => ⟨_, rfl, ?_⟩) (PyProof.Rows.args_list_sort _)))
  obtain ⟨ss', a1, a2, a3⟩ := sorted_out_str hI hp hs
  obtain ⟨c, hc⟩ := sortedHeap_at (vs := vs) (out := (arrOf st').map (·.2)) hoL
  refine wpAny_pure ⟨_, rfl, hQ _ s1.heap.objs.size _ c ss' (fun b u e => ?_) g1 o1 hz hc a1 a3 (a2.trans pk)⟩
  have q := k1 b u e
  have hlt := Heap.lt_size q
  show (sortedHeap (s1.heap.push (seqObj "list" vs.toArray 0)) s1.heap.objs.size vs _).get? b = some u
  rw [sortedHeap_old (Nat.ne_of_lt hlt) (by rw [Heap.size_push]; exact Nat.lt_succ_of_lt hlt)]
  exact Heap.get?_push_of_some _ q
end
/-! ### texts in order -/
def insS (x : List Nat) : List (List Nat) → List (List Nat)
  | [] => [x]
  | y :: r => if y < x then y :: insS x r else x :: y :: r
def sortS : List (List Nat) → List (List Nat)
  | [] => []
  | x :: r => insS x (sortS r)
def RiseS (l : List (List Nat)) : Prop := l.Pairwise fun a b => ¬ b < a
theorem insS_perm (x : List Nat) : ∀ l, (insS x l).Perm (x :: l)
  | [] => .refl _
  | y :: r => by
    unfold insS
    split
    · exact ((insS_perm x r).cons y).trans (.swap x y r)
    · exact .refl _
theorem sortS_perm : ∀ l, (sortS l).Perm l
  | [] => .refl _
  | x :: r => (insS_perm x _).trans ((sortS_perm r).cons x)
theorem insS_rise (x : List Nat) : ∀ l, RiseS l → RiseS (insS x l)
  | [], _ => List.pairwise_singleton _ _
  | y :: r, h => by
    obtain ⟨h1, h2⟩ := List.pairwise_cons.mp h
    unfold insS
    by_cases c : y < x
    · rw [if_pos c]
      refine List.pairwise_cons.mpr ⟨fun z hz => ?_, insS_rise x r h2⟩
      rcases List.mem_cons.mp ((insS_perm x r).mem_iff.mp hz) with rfl | hz
      · exact fun q => List.lt_irrefl _ (List.lt_trans c q)
      · exact h1 z hz
    · rw [if_neg c]
      refine List.pairwise_cons.mpr ⟨fun z hz => ?_, h⟩
      rcases List.mem_cons.mp hz with rfl | hz
      · exact c
      · intro q
        have : ¬ z < y := h1 z hz
        exact c (List.lt_of_le_of_lt (List.not_lt.mp this) q)
theorem sortS_rise : ∀ l, RiseS (sortS l)
  | [] => .nil
  | x :: r => insS_rise x _ (sortS_rise r)
theorem rise_eq : ∀ {l m : List (List Nat)}, RiseS l → RiseS m → l.Perm m → l = m
  | [], m, _, _, p => (List.nil_perm.mp p).symm
  | x :: r, [], _, _, p => by cases (List.perm_nil.mp p)
  | x :: r, y :: q, h, k, p => by
    obtain ⟨h1, h2⟩ := List.pairwise_cons.mp h
    obtain ⟨k1, k2⟩ := List.pairwise_cons.mp k
    have e : x = y := by
      rcases List.mem_cons.mp (p.mem_iff.mp List.mem_cons_self) with e | hx
      · exact e
      · rcases List.mem_cons.mp (p.mem_iff.mpr (List.mem_cons_self (a := y) (l := q))) with e | hy
        · exact e.symm
        · exact List.le_antisymm (List.not_lt.mp (h1 y hy)) (List.not_lt.mp (k1 x hx))
    subst e
    rw [rise_eq h2 k2 p.cons_inv]
theorem rise_of_sortedS : ∀ {l : List (List Nat)}, sortedS (l.map sOf) = true → RiseS l := by
  have go : ∀ (l : List (List Nat)) (x : List Nat), risingS (sOf x) (l.map sOf) = true → RiseS (x :: l) := by
    intro l
    induction l with
    | nil => intro x _; exact List.pairwise_singleton _ _
    | cons y r ih =>
      intro x h
      have h : (!ltCps (sOf y).cps.toList (sOf x).cps.toList && risingS (sOf y) (r.map sOf)) = true := h
      rw [Bool.and_eq_true, sOf_list, sOf_list] at h
      have hyx : ¬ y < x := by
        have := h.1
        rw [ltCps_eq] at this
        simpa using this
      have hr := ih y h.2
      refine List.pairwise_cons.mpr ⟨fun z hz => ?_, hr⟩
      rcases List.mem_cons.mp hz with rfl | hz
      · exact hyx
      · intro q
        exact hyx (List.lt_of_le_of_lt (List.not_lt.mp ((List.pairwise_cons.mp hr).1 z hz)) q)
  intro l h
  cases l with
  | nil => exact .nil
  | cons x r => exact go r x h
theorem sorted_is {ys l : List (List Nat)} (h : sortedS (ys.map sOf) = true) (p : ys.Perm l) : ys = sortS l := rise_eq (rise_of_sortedS h) (sortS_rise l) (p.trans (sortS_perm l).symm)
theorem strs_back (ys : List Str) : (ys.map fun s => s.cps.toList).map sOf = ys := by
  rw [List.map_map]
  conv => rhs; rw [← List.map_id ys]
  exact List.map_congr_left fun s _ => sOf_eta s

/-! ### the rules -/
def SetT (P : Program) (w : World) (a : Addr) (ks : List (List Nat)) : HO := .ext fun h => SetG (zStr P w) h a (ks.map sOf)
def chars (l : List Nat) : List (List Nat) := l.map fun c => [c]
def dedup (l : List (List Nat)) : List (List Nat) := l.foldl addK []
theorem addK_map (ks : List (List Nat)) (k : List Nat) : addK (ks.map sOf) (sOf k) = (addK ks k).map sOf := by
  unfold addK
  have : sOf k ∈ ks.map sOf ↔ k ∈ ks := by
    constructor
    · intro h
      obtain ⟨m, hm, e⟩ := List.mem_map.mp h
      rw [← sOf_inj e]; exact hm
    · exact fun h => List.mem_map_of_mem h
  by_cases c : k ∈ ks
  · rw [if_pos c, if_pos (this.mpr c)]
  · rw [if_neg c, if_neg (fun h => c (this.mp h)), List.map_append]; rfl
theorem foldl_addK_map : ∀ (l acc : List (List Nat)), (l.map sOf).foldl addK (acc.map sOf) = (l.foldl addK acc).map sOf
  | [], _ => rfl
  | x :: r, acc => by
    rw [List.map_cons, List.foldl_cons, List.foldl_cons, addK_map]
    exact foldl_addK_map r _
theorem chars_sOf (l : List Nat) : (sOf l).cps.toList.map (fun c => (⟨#[c]⟩ : Str)) = (chars l).map sOf := by
  rw [sOf_list]
  unfold chars
  rw [List.map_map]
  rfl
section
variable {X : Cx}
theorem setT_ok {H : Hp} {h : Heap} {a : Addr} {ks : List (List Nat)} (R : SetG (zStr X.prog X.w) h a (ks.map sOf)) : ObjOk X.prog X.w H h a (SetT X.prog X.w a ks) :=
  ⟨R, let ⟨o, _, _, _, ho, _⟩ := R; ⟨o, ho⟩, fun _ _ p k => SetG.at p k⟩
/-- set(s) -/
theorem cr_set_text (hd : X.A.handled = none) : CallR X (.type "set") (fun xs H Q => ∃ l : List Nat, xs = [.str (sOf l)] ∧ l.length ≤ 1000 ∧ ∀ p, H p = none → Q (.ref p) (upd H p (SetT X.prog X.w p (dedup (chars l))))) := by
  intro pins s σ H xs us Q I r h
  obtain ⟨l, rfl, hl, q⟩ := h
  obtain ⟨u, rfl, t, rfl⟩ := vals1 r
  refine call_set_str (Z := zStr X.prog X.w) rfl hd ?_ fun h' tk hS hk => ?_
  · have e : (sOf l).cps.size = l.length := sOf_len l
    rw [e]
    show l.length + 1 < 4096
    omega
  · rw [chars_sOf, show ([] : List Str) = ([] : List (List Nat)).map sOf from rfl, foldl_addK_map] at hS
    have nw : H s.heap.objs.size = none := I.hok.fresh (Nat.le_refl _)
    exact ⟨.ref _, _, I.laid (h' := h') (t' := tk) hk (Nat.le_refl _) (setT_ok hS), rfl, q _ nw⟩
/-- sorted(a set of texts) -/
theorem cr_sorted_set (hd : X.A.handled = none) : CallR X (.builtin "sorted") (fun xs H Q => ∃ (a : Addr) (ks : List (List Nat)), xs = [.ref a] ∧ H a = some (SetT X.prog X.w a ks) ∧ ∀ p, H p = none → Q (.ref p) (upd H p (.lst ((sortS ks).map fun l => V.str (sOf l))))) := by
  intro pins s σ H xs us Q I r h
  obtain ⟨a, ks, rfl, hs, q⟩ := h
  rw [Vals.ref1 r]
  obtain ⟨R, _, _⟩ := I.hok a _ hs
  refine sorted_setS R hd fun s' p out c ss hk hg ho hp hget hS hsort hperm => ?_
  have pm : (ss.map fun s => s.cps.toList).Perm ks := by
    have := hperm.map (fun s => s.cps.toList)
    rw [List.map_map] at this
    refine this.trans (.of_eq ?_)
    conv => rhs; rw [← List.map_id ks]
    exact List.map_congr_left fun l _ => sOf_list l
  have e := sorted_is (by rw [strs_back]; exact hsort) pm
  have e2 : ss = (sortS ks).map sOf := by rw [← e, strs_back]
  have nw : H p = none := I.hok.fresh hp
  have hlen : (ss.map V.str).length ≤ sizeLine := by
    rw [List.length_map, hperm.length_eq]
    obtain ⟨_, es, _, _, _, _, _, _, pm0, _, hb, _⟩ := R
    rw [← pm0.length_eq, List.length_map, Array.length_toList]
    exact fits_of_scanBound hb
  have J : Inv X pins σ (upd H p (.lst (ss.map V.str))) { s with heap := s'.heap, gens := s'.gens, drawn := s'.drawn, toks := s'.toks } :=
    I.call (ch := []) (Un.laid hk hp nw) (I.hok.laid hk hp ⟨hlen, out.toList, c, vals_of_strs hS, hget⟩) (by rw [hg]; exact I.bare) (fun _ z => nomatch z)
  have e3 : s' = { s with heap := s'.heap, gens := s'.gens, drawn := s'.drawn, toks := s'.toks } := by
    cases s'
    cases s
    cases ho
    rfl
  have e4 : ss.map V.str = (sortS ks).map fun l => V.str (sOf l) := by
    rw [e2, List.map_map]; rfl
  rw [e3]
  rw [e4] at J
  exact ⟨.ref p, _, J, rfl, q p nw⟩
/-- len(a set of texts) -/
theorem cr_len_set : CallR X (.builtin "len") (fun xs H Q => ∃ (a : Addr) (ks : List (List Nat)), xs = [.ref a] ∧ H a = some (SetT X.prog X.w a ks) ∧ Q (.int ks.length) H) := by
  intro pins s σ H xs us Q I r h
  obtain ⟨a, ks, rfl, hs, q⟩ := h
  rw [Vals.ref1 r]
  obtain ⟨⟨o, es, ep, t, ho, hex, hd, _, pm0, _, hb, hf, _, _⟩, _, _⟩ := I.hok a _ hs
  have e : es.size = ks.length := by
    have := pm0.length_eq
    rw [List.length_map, Array.length_toList, List.length_map] at this
    exact this
  have h1 : scanBound ≤ 4096 := by decide
  refine call_len_set ho hex hd hf (by omega) ⟨.int ks.length, H, I.tok _, ⟨_, by rw [e]⟩, q⟩
end
end DD

end
section
set_option Elab.async false
set_option linter.all false
set_option maxRecDepth 100000
set_option maxHeartbeats 1000000
/-! D2: built-in functions, methods, subscripts, slices, displays over plain data. -/
namespace DD
open PySem PySem.Spec PyProof.Rows L2

/-! ### built-ins of one argument -/
structure B1 (Γ : Gm) (f : Value) (g : Sq → Option D) : Prop where
  run : ∀ X, Fits Γ X → ∃ r, CallR X f r ∧ ∀ q d, g q = some d → ∀ v H Q, RpS X.K H v q → (∀ w H', Same H H' → Rp X.K H' w d → Q w H') → r [v] H Q
structure B1o (Γ : Gm) (f : Value) (g : Sq → Option Cont) : Prop where
  run : ∀ X, Fits Γ X → ∃ r, CallR X f r ∧ ∀ q c, g q = some c → ∀ v H Q, RpS X.K H v q → (∀ a H', Same H H' → H a = none → CRp X.K H' a c → Q (.ref a) H') → r [v] H Q
def e1 (g : Sq → Option D) (es : ES) : EV := fun L => (es L).bind fun p => (g p.1).map fun d => (d, p.2)
def o1 (g : Sq → Option Cont) (es : ES) : EO := fun L => (es L).bind fun p => (g p.1).map fun d => (d, p.2)
def isBlt : Value → Bool
  | .builtin _ => true
  | .type _ => true
  | _ => false
section
variable {Γ : Gm} {x : Str} {p pos : Pos} {e e2 : Expr} {es : ES} {f : Value}
theorem pe_any1 {X : Cx} {r : List V → Hp → VK → Prop} {t : TA} {es : List Expr} (hc : CallR X f r) (hf : isBlt f = true) (hg : Gl X x) (hm : X.mg x = none) (hv : bootBuiltins x = some f) (ha : PA X (e :: es) t) (hn : x ≠ "__name__") (hdb : (x == ("__debug__" : Str)) = false)
    (he : starEach (e :: es) X.env = (false, eval e X.env) :: starEach es X.env) (hpl : (backTo pos (starEach es X.env)).any (·.1) = false) : PE X (.Call (.Name x p) (e :: es) [] pos) (tCB r t) := by
  cases f with
  | builtin id => exact pe_callB hc hg hm hv ha hn hdb he hpl
  | type T => exact pe_callTy hc hg hm hv ha hn hdb he hpl
  | _ => cases hf
theorem je_b1 {g : Sq → Option D} (hB : B1 Γ f g) (ha : JS Γ e es) (hv : bootBuiltins x = some f) (hf : isBlt f = true) (hg : Γ.nm.lookup x = some .globalImplicit) (hb : x ∈ Γ.bi) (hn : x ≠ "__name__") (hdb : (x == ("__debug__" : Str)) = false) : JE Γ (.Call (.Name x p) [e] [] pos) (e1 g es) := by
  refine ⟨fun _ _ => rfl, fun X F => ?_⟩
  obtain ⟨r, h1, h2⟩ := hB.run X F
  refine pe_mono (pe_any1 h1 hf (F.gl x hg) (F.bi x hb) hv (pa_cons (ha.run X F) pa_nil (ha.ns _ _)) hn hdb (ha.ns _ _) rfl) fun σ H Q h => ?_
  obtain ⟨B, L, d, L', R, e, q⟩ := h
  obtain ⟨⟨sq, L1⟩, k1, e⟩ := Option.bind_eq_some_iff.mp e
  obtain ⟨d', k2, e⟩ := Option.map_eq_some_iff.mp e
  cases e
  exact ⟨B, L, sq, L1, R, k1, fun v H1 R1 s1 l1 r1 => h2 sq d k2 v H1 Q r1 fun w H2 sm r2 => q w H2 (R1.grow sm) (s1.trans l1 (.of_same sm)) l1 r2⟩
theorem jo_b1 {g : Sq → Option Cont} (hB : B1o Γ f g) (ha : JS Γ e es) (hv : bootBuiltins x = some f) (hf : isBlt f = true) (hg : Γ.nm.lookup x = some .globalImplicit) (hb : x ∈ Γ.bi) (hn : x ≠ "__name__") (hdb : (x == ("__debug__" : Str)) = false) : JO Γ (.Call (.Name x p) [e] [] pos) (o1 g es) := by
  refine ⟨fun _ _ => rfl, fun X F => ?_⟩
  obtain ⟨r, h1, h2⟩ := hB.run X F
  refine pe_mono (pe_any1 h1 hf (F.gl x hg) (F.bi x hb) hv (pa_cons (ha.run X F) pa_nil (ha.ns _ _)) hn hdb (ha.ns _ _) rfl) fun σ H Q h => ?_
  obtain ⟨B, L, d, L', R, e, q⟩ := h
  obtain ⟨⟨sq, L1⟩, k1, e⟩ := Option.bind_eq_some_iff.mp e
  obtain ⟨d', k2, e⟩ := Option.map_eq_some_iff.mp e
  cases e
  exact ⟨B, L, sq, L1, R, k1, fun v H1 R1 s1 l1 r1 => h2 sq d k2 v H1 Q r1 fun w H2 sm n r2 => q w H2 (R1.grow sm) (s1.trans l1 (.of_same sm)) l1 (s1.dom _ n) r2⟩
/-- two values -/
structure B2 (Γ : Gm) (f : Value) (g : D → D → Option D) : Prop where
  run : ∀ X, Fits Γ X → ∃ r, CallR X f r ∧ ∀ x y d, g x y = some d → ∀ v u H Q, Rp X.K H v x → Rp X.K H u y → (∀ w H', Same H H' → Rp X.K H' w d → Q w H') → r [v, u] H Q
theorem back_one {e : Expr} (h : NS e) (pos : Pos) (env : PySem.Env) : (backTo pos (starEach [e] env)).any (·.1) = false := by
  rw [h]; rfl
theorem je_b2 {g : D → D → Option D} {ea eb : EV} (hB : B2 Γ f g) (ha : JE Γ e ea) (hb2 : JE Γ e2 eb) (hv : bootBuiltins x = some f) (hf : isBlt f = true) (hg : Γ.nm.lookup x = some .globalImplicit) (hb : x ∈ Γ.bi) (hn : x ≠ "__name__") (hdb : (x == ("__debug__" : Str)) = false) : JE Γ (.Call (.Name x p) [e, e2] [] pos) (eOp g ea eb) := by
  refine ⟨fun _ _ => rfl, fun X F => ?_⟩
  obtain ⟨r, h1, h2⟩ := hB.run X F
  refine pe_mono (pe_any1 h1 hf (F.gl x hg) (F.bi x hb) hv (pa_cons (ha.run X F) (pa_cons (hb2.run X F) pa_nil (hb2.ns _ _)) (ha.ns _ _)) hn hdb (ha.ns _ _) (back_one hb2.ns _ _)) fun σ H Q h => ?_
  exact tOp_of (r := fun v u H Q => r [v, u] H Q) h2 σ H Q h
end
/-! ### their answers -/
def intsOf : List D → Option (List Int)
  | [] => some []
  | .int i :: r => (intsOf r).map (i :: ·)
  | _ => none
def blsOf : List D → Option (List Bool)
  | [] => some []
  | .bl i :: r => (blsOf r).map (i :: ·)
  | _ => none
def strsOf : List D → Option (List (List Nat))
  | [] => some []
  | .str i :: r => (strsOf r).map (i :: ·)
  | _ => none
theorem intsOf_some : ∀ {xs : List D} {ns : List Int}, intsOf xs = some ns → xs = ns.map D.int
  | [], _, h => by cases h; rfl
  | .int i :: r, ns, h => by
    unfold intsOf at h
    obtain ⟨ms, h1, h2⟩ := Option.map_eq_some_iff.mp h
    subst h2; rw [intsOf_some h1]; rfl
  | .non :: _, _, h | .bl _ :: _, _, h | .str _ :: _, _, h | .lst _ :: _, _, h | .tup _ :: _, _, h | .scr _ :: _, _, h => by cases h
theorem blsOf_some : ∀ {xs : List D} {ns : List Bool}, blsOf xs = some ns → xs = ns.map D.bl
  | [], _, h => by cases h; rfl
  | .bl i :: r, ns, h => by
    unfold blsOf at h
    obtain ⟨ms, h1, h2⟩ := Option.map_eq_some_iff.mp h
    subst h2; rw [blsOf_some h1]; rfl
  | .non :: _, _, h | .int _ :: _, _, h | .str _ :: _, _, h | .lst _ :: _, _, h | .tup _ :: _, _, h | .scr _ :: _, _, h => by cases h
theorem strsOf_some : ∀ {xs : List D} {ns : List (List Nat)}, strsOf xs = some ns → xs = ns.map D.str
  | [], _, h => by cases h; rfl
  | .str i :: r, ns, h => by
    unfold strsOf at h
    obtain ⟨ms, h1, h2⟩ := Option.map_eq_some_iff.mp h
    subst h2; rw [strsOf_some h1]; rfl
  | .non :: _, _, h | .int _ :: _, _, h | .bl _ :: _, _, h | .lst _ :: _, _, h | .tup _ :: _, _, h | .scr _ :: _, _, h => by cases h
theorem intsOf_map (ns : List Int) : intsOf (ns.map D.int) = some ns := by
  induction ns with
  | nil => rfl
  | cons n r ih => simp [intsOf, ih]
theorem blsOf_map (ns : List Bool) : blsOf (ns.map D.bl) = some ns := by
  induction ns with
  | nil => rfl
  | cons n r ih => simp [blsOf, ih]
theorem strsOf_map (ns : List (List Nat)) : strsOf (ns.map D.str) = some ns := by
  induction ns with
  | nil => rfl
  | cons n r ih => simp [strsOf, ih]
def gLen : Sq → Option D
  | .l xs => some (.int xs.length)
  | .t xs => some (.int xs.length)
  | .s l => some (.int l.length)
  | _ => none
def gAll : Sq → Option D
  | .l xs => (blsOf xs).map fun bs => .bl (bs.all id)
  | _ => none
def gAny : Sq → Option D
  | .l xs => (blsOf xs).map fun bs => .bl (bs.any id)
  | _ => none
def gSum : Sq → Option D
  | .l xs => (intsOf xs).map fun ns => .int ns.sum
  | _ => none
def maxL : List Int → Option Int
  | [] => none
  | x :: r => some (r.foldl max x)
def minL : List Int → Option Int
  | [] => none
  | x :: r => some (r.foldl min x)
def gMax : Sq → Option D
  | .l xs => (intsOf xs).bind fun ns => (maxL ns).map D.int
  | _ => none
def gMin : Sq → Option D
  | .l xs => (intsOf xs).bind fun ns => (minL ns).map D.int
  | _ => none
def gTup : Sq → Option D
  | .l xs => some (.tup xs)
  | .t xs => some (.tup xs)
  | _ => none
def gAbs : Sq → Option D
  | .v (.int i) => some (.int (if i < 0 then -i else i))
  | _ => none
def gInt : Sq → Option D
  | .v (.int i) => some (.int i)
  | .v (.bl b) => some (.int (if b then 1 else 0))
  | _ => none
def gList : Sq → Option Cont
  | .l xs => some (.l xs)
  | .t xs => some (.l xs)
  | .s l => if l.length ≤ 100000 then some (.l ((chars l).map D.str)) else none
  | _ => none
theorem foldl_max : ∀ (r : List Int) (x : Int), (r.foldl max x ∈ x :: r) ∧ ∀ y ∈ x :: r, y ≤ r.foldl max x
  | [], x => ⟨List.mem_cons_self, fun y hy => by rw [List.mem_singleton.mp hy]; exact Int.le_refl _⟩
  | z :: r, x => by
    obtain ⟨h1, h2⟩ := foldl_max r (max x z)
    rw [List.foldl_cons]
    refine ⟨?_, fun y hy => ?_⟩
    · rcases List.mem_cons.mp h1 with e | e
      · rw [e]
        by_cases c : x ≤ z
        · rw [Int.max_eq_right c]; simp
        · rw [Int.max_eq_left (by omega)]; simp
      · exact List.mem_cons_of_mem _ (List.mem_cons_of_mem _ e)
    · have h3 := h2 (max x z) List.mem_cons_self
      rcases List.mem_cons.mp hy with rfl | hy
      · exact Int.le_trans (Int.le_max_left _ _) h3
      · rcases List.mem_cons.mp hy with rfl | hy
        · exact Int.le_trans (Int.le_max_right _ _) h3
        · exact h2 y (List.mem_cons_of_mem _ hy)
theorem foldl_min : ∀ (r : List Int) (x : Int), (r.foldl min x ∈ x :: r) ∧ ∀ y ∈ x :: r, r.foldl min x ≤ y
  | [], x => ⟨List.mem_cons_self, fun y hy => by rw [List.mem_singleton.mp hy]; exact Int.le_refl _⟩
  | z :: r, x => by
    obtain ⟨h1, h2⟩ := foldl_min r (min x z)
    rw [List.foldl_cons]
    refine ⟨?_, fun y hy => ?_⟩
    · rcases List.mem_cons.mp h1 with e | e
      · rw [e]
        by_cases c : x ≤ z
        · rw [Int.min_eq_left c]; simp
        · rw [Int.min_eq_right (by omega)]; simp
      · exact List.mem_cons_of_mem _ (List.mem_cons_of_mem _ e)
    · have h3 := h2 (min x z) List.mem_cons_self
      rcases List.mem_cons.mp hy with rfl | hy
      · exact Int.le_trans h3 (Int.min_le_left _ _)
      · rcases List.mem_cons.mp hy with rfl | hy
        · exact Int.le_trans h3 (Int.min_le_right _ _)
        · exact h2 y (List.mem_cons_of_mem _ hy)
section
variable {Γ : Gm}
theorem b_len : B1 Γ (.builtin "len") gLen := by
  refine ⟨fun X F => ⟨_, call_len_seq.or call_len_str, fun q d hd v H Q r k => ?_⟩⟩
  cases q with
  | l xs =>
    obtain ⟨a, vs, rfl, h1, h2⟩ := r
    cases hd
    exact .inl ⟨a, vs, rfl, .inl h1, k _ H (.refl _) (by rw [h2.length]; exact .int _)⟩
  | t xs =>
    obtain ⟨a, vs, rfl, h1, h2⟩ := r
    cases hd
    exact .inl ⟨a, vs, rfl, .inr h1, k _ H (.refl _) (by rw [h2.length]; exact .int _)⟩
  | s l =>
    obtain ⟨rfl, h1⟩ := r
    cases hd
    exact .inr ⟨sOf l, rfl, by rw [sOf_len]; exact h1, k _ H (.refl _) (by rw [sOf_len]; exact .int _)⟩
  | m kvs => cases hd
  | v d => cases hd
theorem b_all : B1 Γ (.builtin "all") gAll := by
  refine ⟨fun X F => ⟨_, cr_all F.calm, fun q d hd v H Q r k => ?_⟩⟩
  cases q with
  | l xs =>
    obtain ⟨a, vs, rfl, h1, h2⟩ := r
    obtain ⟨bs, e1, e2⟩ := Option.map_eq_some_iff.mp hd
    subst e2
    rw [blsOf_some e1] at h2
    rw [h2.bls] at h1
    exact ⟨a, bs, rfl, h1, k _ H (.refl _) (.bl _)⟩
  | _ => cases hd
theorem b_any : B1 Γ (.builtin "any") gAny := by
  refine ⟨fun X F => ⟨_, cr_any F.calm, fun q d hd v H Q r k => ?_⟩⟩
  cases q with
  | l xs =>
    obtain ⟨a, vs, rfl, h1, h2⟩ := r
    obtain ⟨bs, e1, e2⟩ := Option.map_eq_some_iff.mp hd
    subst e2
    rw [blsOf_some e1] at h2
    rw [h2.bls] at h1
    exact ⟨a, bs, rfl, h1, k _ H (.refl _) (.bl _)⟩
  | _ => cases hd
theorem b_sum : B1 Γ (.builtin "sum") gSum := by
  refine ⟨fun X F => ⟨_, cr_sum F.calm, fun q d hd v H Q r k => ?_⟩⟩
  cases q with
  | l xs =>
    obtain ⟨a, vs, rfl, h1, h2⟩ := r
    obtain ⟨ns, e1, e2⟩ := Option.map_eq_some_iff.mp hd
    subst e2
    rw [intsOf_some e1] at h2
    rw [h2.ints] at h1
    exact ⟨a, ns, rfl, h1, k _ H (.refl _) (.int _)⟩
  | _ => cases hd
theorem b_max : B1 Γ (.builtin "max") gMax := by
  refine ⟨fun X F => ⟨_, cr_max F.calm, fun q d hd v H Q r k => ?_⟩⟩
  cases q with
  | l xs =>
    obtain ⟨a, vs, rfl, h1, h2⟩ := r
    obtain ⟨ns, e1, e2⟩ := Option.bind_eq_some_iff.mp hd
    obtain ⟨m, e3, e4⟩ := Option.map_eq_some_iff.mp e2
    subst e4
    rw [intsOf_some e1] at h2
    rw [h2.ints] at h1
    cases ns with
    | nil => cases e3
    | cons n r =>
      cases e3
      obtain ⟨f1, f2⟩ := foldl_max r n
      refine ⟨a, n :: r, rfl, h1, Nat.succ_pos _, fun m hm hle => ?_⟩
      have : m = r.foldl max n := Int.le_antisymm (f2 m hm) (hle _ f1)
      rw [this]
      exact k _ H (.refl _) (.int _)
  | _ => cases hd
theorem b_min : B1 Γ (.builtin "min") gMin := by
  refine ⟨fun X F => ⟨_, cr_min F.calm, fun q d hd v H Q r k => ?_⟩⟩
  cases q with
  | l xs =>
    obtain ⟨a, vs, rfl, h1, h2⟩ := r
    obtain ⟨ns, e1, e2⟩ := Option.bind_eq_some_iff.mp hd
    obtain ⟨m, e3, e4⟩ := Option.map_eq_some_iff.mp e2
    subst e4
    rw [intsOf_some e1] at h2
    rw [h2.ints] at h1
    cases ns with
    | nil => cases e3
    | cons n r =>
      cases e3
      obtain ⟨f1, f2⟩ := foldl_min r n
      refine ⟨a, n :: r, rfl, h1, Nat.succ_pos _, fun m hm hle => ?_⟩
      have : m = r.foldl min n := Int.le_antisymm (hle _ f1) (f2 m hm)
      rw [this]
      exact k _ H (.refl _) (.int _)
  | _ => cases hd
theorem b_tuple : B1 Γ (.type "tuple") gTup := by
  refine ⟨fun X F => ⟨_, call_tuple_of, fun q d hd v H Q r k => ?_⟩⟩
  cases q with
  | l xs =>
    obtain ⟨a, vs, rfl, h1, h2⟩ := r
    cases hd
    refine ⟨a, vs, rfl, .inl ⟨h1, fun l hl => ?_⟩⟩
    have sm : Same H (upd H l (.tup vs)) := fun b o e => by rw [upd_ne (ne_of_none e hl)]; exact e
    exact k _ _ sm (.tup (.inl (.inl upd_same)) (h2.mo (.of sm)))
  | t xs =>
    obtain ⟨a, vs, rfl, h1, h2⟩ := r
    cases hd
    exact ⟨a, vs, rfl, .inr ⟨h1, k _ H (.refl _) (.tup h1 h2)⟩⟩
  | _ => cases hd
theorem b_abs : B1 Γ (.builtin "abs") gAbs := by
  refine ⟨fun X F => ⟨_, call_abs, fun q d hd v H Q r k => ?_⟩⟩
  cases q with
  | v d0 =>
    cases d0 with
    | int i =>
      cases hd
      obtain rfl := Rp.int_of r
      exact ⟨i, rfl, k _ H (.refl _) (.int _)⟩
    | _ => cases hd
  | _ => cases hd
theorem b_int : B1 Γ (.type "int") gInt := by
  refine ⟨fun X F => ⟨_, call_int1, fun q d hd v H Q r k => ?_⟩⟩
  cases q with
  | v d0 =>
    cases d0 with
    | int i =>
      cases hd
      obtain rfl := Rp.int_of r
      exact .inl ⟨i, rfl, k _ H (.refl _) (.int _)⟩
    | bl b =>
      cases hd
      obtain rfl := Rp.bl_of r
      exact .inr ⟨b, rfl, k _ H (.refl _) (.int _)⟩
    | _ => cases hd
  | _ => cases hd
/-- list(a text) -/
theorem call_list_text {X : Cx} (hd : X.A.handled = none) : CallR X (.type "list") (fun xs H Q => ∃ l : List Nat, xs = [.str (sOf l)] ∧ l.length ≤ sizeLine ∧ ∀ p, H p = none → Q (.ref p) (upd H p (.lst ((chars l).map fun c => V.str (sOf c))))) := by
  intro pins s σ H xs us Q I r h
  obtain ⟨l, rfl, hl, q⟩ := h
  obtain ⟨u, rfl, t, rfl⟩ := vals1 r
  have hz : (sOf l).cps.size ≤ sizeLine := by
    have : (sOf l).cps.size = l.length := sOf_len l
    omega
  refine PySem.call_list_str hd (sOf l) t (fun h' tk acc' c' hk hg hi => ?_) hz
  have nw : H s.heap.objs.size = none := I.hok.fresh (Nat.le_refl _)
  have hsz : (sOf l).cps.size = l.length := sOf_len l
  have rel : Vals ((chars l).map fun c => V.str (sOf c)) acc'.toList := by
    have hlc : (chars l).length = l.length := by unfold chars; rw [List.length_map]
    have hla : acc'.toList.length = l.length := by
      have q1 : acc'.toList.length = acc'.size := by simp
      rw [q1, hi.1, hsz]
    refine vals_of_at (by rw [List.length_map, hla, hlc]) fun j x u h1 h2 => ?_
    rw [Array.getElem?_toList] at h2
    obtain ⟨c, tk2, e1, e2⟩ := hi.2 j u h2
    have e3 : l[j]? = some c := by
      have : (sOf l).cps.toList[j]? = some c := by rw [Array.getElem?_toList]; exact e1
      rwa [sOf_list] at this
    unfold chars at h1
    rw [List.getElem?_map, List.getElem?_map, e3] at h1
    cases h1
    exact ⟨tk2, e2⟩
  refine ⟨.ref _, _, I.laid (h' := h') (t' := tk) (o := .lst ((chars l).map fun c => V.str (sOf c))) hk (Nat.le_refl _) ⟨?_, acc'.toList, c', rel, ?_⟩, rfl, q _ nw⟩
  · rw [List.length_map]; unfold chars; rw [List.length_map]; exact hl
  · rw [hg]
theorem bo_list : B1o Γ (.type "list") gList := by
  refine ⟨fun X F => ⟨_, call_list_of.or (call_list_text F.hd), fun q d hd v H Q r k => ?_⟩⟩
  have new : ∀ {vs : List V} {xs : List D} {l : Addr}, H l = none → RpA X.K H vs xs → Q (.ref l) (upd H l (.lst vs)) ∨ True := fun _ _ => .inr trivial
  cases q with
  | l xs =>
    obtain ⟨a, vs, rfl, h1, h2⟩ := r
    cases hd
    refine .inl ⟨a, vs, rfl, .inl h1, fun l hl => ?_⟩
    have sm : Same H (upd H l (.lst vs)) := fun b o e => by rw [upd_ne (ne_of_none e hl)]; exact e
    exact k _ _ sm hl ⟨vs, upd_same, h2.mo (.of sm)⟩
  | t xs =>
    obtain ⟨a, vs, rfl, h1, h2⟩ := r
    cases hd
    refine .inl ⟨a, vs, rfl, .inr h1, fun l hl => ?_⟩
    have sm : Same H (upd H l (.lst vs)) := fun b o e => by rw [upd_ne (ne_of_none e hl)]; exact e
    exact k _ _ sm hl ⟨vs, upd_same, h2.mo (.of sm)⟩
  | s l =>
    obtain ⟨rfl, h1⟩ := r
    have hd : (if l.length ≤ 100000 then some (Cont.l ((chars l).map D.str)) else none) = some d := hd
    by_cases c : l.length ≤ 100000
    · rw [if_pos c] at hd
      cases hd
      refine .inr ⟨l, rfl, h1, fun p hp => ?_⟩
      have sm : Same H (upd H p (.lst ((chars l).map fun c => V.str (sOf c)))) := fun b o e => by rw [upd_ne (ne_of_none e hp)]; exact e
      refine k _ _ sm hp ⟨_, upd_same, ?_⟩
      have e : (chars l).map (fun c => V.str (sOf c)) = ((chars l).map sOf).map V.str := by rw [List.map_map]; rfl
      rw [e]
      refine RpA.of_strs _ fun m hm => ?_
      obtain ⟨c, _, rfl⟩ := List.mem_map.mp hm
      show 1 ≤ sizeLine
      decide
    · rw [if_neg c] at hd
      cases hd
  | _ => cases hd
/-- sorted(a list of texts) -/
def gSort : Sq → Option Cont
  | .l xs => (strsOf xs).bind fun ss => if ss.length < 64 then some (.l ((sortS ss).map D.str)) else none
  | _ => none
theorem bo_sorted : B1o Γ (.builtin "sorted") gSort := by
  refine ⟨fun X F => ⟨_, cr_sortedS, fun q d hd v H Q r k => ?_⟩⟩
  cases q with
  | l xs =>
    obtain ⟨a, vs, rfl, h1, h2⟩ := r
    obtain ⟨ss, e1, e2⟩ := Option.bind_eq_some_iff.mp hd
    split at e2
    · rename_i h64
      cases e2
      rw [strsOf_some e1] at h2
      obtain ⟨e3, hl⟩ := h2.strs
      rw [e3] at h1
      refine ⟨a, ss.map sOf, rfl, h1, by rw [List.length_map]; exact h64, fun ys p pm so hp => ?_⟩
      have pm2 : (ys.map fun s => s.cps.toList).Perm ss := by
        have := pm.map (fun s : Str => s.cps.toList)
        rw [List.map_map] at this
        refine this.trans (.of_eq ?_)
        conv => rhs; rw [← List.map_id ss]
        exact List.map_congr_left fun l _ => sOf_list l
      have e4 := sorted_is (by rw [strs_back]; exact so) pm2
      have e5 : ys = (sortS ss).map sOf := by rw [← e4, strs_back]
      have sm : Same H (upd H p (.lst (ys.map V.str))) := fun b o e => by rw [upd_ne (ne_of_none e hp)]; exact e
      refine k _ _ sm hp ⟨_, upd_same, ?_⟩
      rw [e5]
      exact RpA.of_strs _ fun m hm => hl m ((sortS_perm ss).mem_iff.mp hm)
    · cases e2
  | _ => cases hd
def gMin2 : D → D → Option D
  | .int i, .int j => some (.int (if j < i then j else i))
  | _, _ => none
def gMax2 : D → D → Option D
  | .int i, .int j => some (.int (if j > i then j else i))
  | _, _ => none
theorem b_min2 : B2 Γ (.builtin "min") gMin2 := by
  refine ⟨fun X F => ⟨_, call_min2 F.calm, fun x y d hd v u H Q rx ry k => ?_⟩⟩
  unfold gMin2 at hd
  split at hd
  · cases hd
    exact ⟨_, _, by rw [rx.int_of, ry.int_of], k _ H (.refl _) (.int _)⟩
  · cases hd
theorem b_max2 : B2 Γ (.builtin "max") gMax2 := by
  refine ⟨fun X F => ⟨_, call_max2 F.calm, fun x y d hd v u H Q rx ry k => ?_⟩⟩
  unfold gMax2 at hd
  split at hd
  · cases hd
    exact ⟨_, _, by rw [rx.int_of, ry.int_of], k _ H (.refl _) (.int _)⟩
  · cases hd
end
end DD

end
section
set_option Elab.async false
set_option linter.all false
set_option maxRecDepth 100000
set_option maxHeartbeats 1000000
/-! DX0: text * int, list + list, counts of signs. -/
namespace DD
open PySem PySem.Spec PyProof.Rows L2
def rMulS : R2 := fun x y H Q => ∃ (l : List Nat) (k : Int), x = .str (sOf l) ∧ y = .int k ∧ 0 ≤ k ∧ k ≤ 1000 ∧ l.length ≤ 10000 ∧ Q (.str (sOf (List.replicate k.toNat l).flatten)) H
theorem fold_arr (c : Array Nat) : ∀ (n : Nat) (acc : Array Nat), ((List.replicate n c).foldl (· ++ ·) acc).toList = acc.toList ++ (List.replicate n c.toList).flatten
  | 0, acc => by simp
  | n + 1, acc => by
    rw [List.replicate_succ, List.foldl_cons, fold_arr c n, List.replicate_succ, List.flatten_cons, Array.toList_append, List.append_assoc]
theorem mul_flat (l : List Nat) (k : Int) (h : 0 ≤ k) : Txt.mul (sOf l) k = sOf (List.replicate k.toNat l).flatten := by
  unfold Txt.mul
  by_cases h1 : k < 1
  · rw [if_pos h1]
    have : k.toNat = 0 := by omega
    rw [this]; rfl
  · rw [if_neg h1]
    by_cases h2 : (k == 1 || (sOf l).length == 0) = true
    · rw [if_pos h2]
      rw [Bool.or_eq_true] at h2
      rcases h2 with h2 | h2
      · have : k = 1 := by simpa using h2
        subst this
        simp
      · have h3 : l.length = 0 := by rw [sOf_len] at h2; simpa using h2
        have : l = [] := List.eq_nil_of_length_eq_zero h3
        subst this
        congr 1
        simp
    · rw [if_neg h2]
      rw [← sOf_eta ⟨(List.replicate k.toNat (sOf l).cps).foldl (· ++ ·) #[]⟩]
      congr 1
      have z := fold_arr (sOf l).cps k.toNat #[]
      rw [sOf_list] at z
      exact z
theorem op_mulS {X : Cx} : OpR X (binaryOp .Mult) rMulS := by
  intro pins s σ H x y v u Q I rx ry h
  obtain ⟨l, k, rfl, rfl, h1, h2, h3, q⟩ := h
  obtain ⟨t, rfl⟩ := rx
  obtain ⟨t', rfl⟩ := ry
  have e := mul_flat l k h1
  refine PySem.SB.mul ⟨?_, fun hk _ => ?_, fun hk _ => ?_⟩ fun t' tk => ⟨.str (sOf (List.replicate k.toNat l).flatten), H, I.tok _, ⟨_, by rw [e]⟩, q⟩
  · rw [decide_eq_false (by omega), decide_eq_false (by omega)]; rfl
  · rw [sOf_len]
    intro hc
    have : (l.length : Int) * k ≤ 10000 * 1000 := Int.mul_le_mul (by omega) h2 h1 (by omega)
    have h5 : (2 ^ 63 - 1) / k < (l.length : Int) := hc
    have h6 : (2 ^ 63 - 1 : Int) < l.length * k := by
      have := (Int.ediv_lt_iff_lt_mul (by omega : 0 < k)).mp h5
      exact this
    omega
  · rw [sOf_len]
    unfold Builtin.Str.tooLong
    apply decide_eq_false
    have : l.length * k.toNat ≤ 10000 * 1000 := Nat.mul_le_mul h3 (by omega)
    have : (sizeLine : Nat) = 16777216 := sizeLine_eq
    omega
/-- the new list is frozen at once -/
def rCatS (K : PySem.W.Frag) : R2 := fun x y H Q => ∃ l b xs zs, x = .ref l ∧ y = .ref b ∧ SqL K H l xs ∧ SqL K H b zs ∧ xs.length + zs.length ≤ sizeLine ∧ ∀ p o, H p = none → Q (.ref p) (upd H p (.frz o (.lst (xs ++ zs))))
theorem op_catS {X : Cx} : OpR X (binaryOp .Add) (rCatS X.K) := by
  intro pins s σ H x y v u Q I rx ry h
  obtain ⟨l, b, xs, zs, rfl, rfl, hH, hB, hz, q⟩ := h
  cases rx
  cases ry
  obtain ⟨its, r, ⟨⟨cls, dd, data, sl⟩, n, ho, hc, _, hd⟩, z⟩ := I.list hH
  obtain ⟨its2, r2, ⟨⟨cls2, dd2, data2, sl2⟩, n2, ho2, hc2, _, hd2⟩, z2⟩ := I.list hB
  simp only at hc hd hc2 hd2
  subst hc hd hc2 hd2
  have e : its.toArray ++ its2.toArray = (its ++ its2).toArray := by simp
  have e1 := r.length
  have e2 := r2.length
  refine concat_meets ⟨_, ho, rfl⟩ ⟨_, ho2, rfl⟩ noFill_list_add seq_list_add PySem.F.slot_list_add PySem.F.entry_list_add (PySem.F.args_list_add_2 _ _) (list_addW l b its.toArray its2.toArray n n2 dd dd2 sl sl2 (by rw [List.size_toArray, List.size_toArray]; omega)) ⟨ho, ho2, ?_⟩
  rw [e]
  have I1 := I.lnew (t' := s.toks) (r.append r2) (by rw [List.length_append]; omega)
  obtain ⟨o, I2⟩ := inv_freeze I1 upd_same
  rw [upd_upd] at I2
  exact ⟨.ref _, _, I2, rfl, q _ o I.fresh⟩
theorem cnt_count (c : Nat) : ∀ l : List Nat, PyProof.Rows.cnt c l = ((l.count c : Nat) : Int)
  | [] => rfl
  | n :: r => by
    rw [PyProof.Rows.cnt_cons, cnt_count c r, List.count_cons]
    by_cases h : n = c
    · subst h; simp; omega
    · simp [h]
end DD

end
section
set_option Elab.async false
set_option linter.all false
set_option maxRecDepth 100000
set_option maxHeartbeats 1000000
/-! D3: operators over plain data. -/
namespace DD
open PySem PySem.Spec PyProof.Rows L2

/-! ### data as the library's comparisons take it -/
mutual
def toPy : D → PyData
  | .non => .none
  | .bl b => .bool b
  | .int i => .int i
  | .str l => .str (sOf l)
  | .lst xs => .list (toPyA xs)
  | .tup xs => .tuple (toPyA xs)
  | .scr ns => .list (ns.map PyData.int)
def toPyA : List D → List PyData
  | [] => []
  | x :: r => toPy x :: toPyA r
end
theorem dp_ints {K : PySem.W.Frag} {H : Hp} : ∀ ns : List Int, DpAll K H (ns.map V.int) (ns.map PyData.int)
  | [] => .nil
  | n :: r => .cons (.int n) (dp_ints r)
mutual
theorem dp_of {K : PySem.W.Frag} {H : Hp} : ∀ {v : V} {d : D}, Rp K H v d → Dp K H v (toPy d)
  | _, _, .non => .non
  | _, _, .bl b => .bl b
  | _, _, .int i => .int i
  | _, _, .str _ => .str _
  | _, _, .lst h r => .lst h.seq (dpA_of r)
  | _, _, .tup h r => .tup h (dpA_of r)
  | _, _, .scr h => .lst h.seq (dp_ints _)
theorem dpA_of {K : PySem.W.Frag} {H : Hp} : ∀ {vs : List V} {ds : List D}, RpA K H vs ds → DpAll K H vs (toPyA ds)
  | _, _, .nil => .nil
  | _, _, .cons r t => .cons (dp_of r) (dpA_of t)
end
mutual
def okD : D → Bool
  | .str l => l.all (· < 0x110000)
  | .lst xs => okDA xs
  | .tup xs => okDA xs
  | .scr _ => false
  | _ => true
def okDA : List D → Bool
  | [] => true
  | x :: r => okD x && okDA r
end
mutual
def depD : D → Nat
  | .lst xs => depDA xs + 1
  | .tup xs => depDA xs + 1
  | .scr ns => PyData.depthAll (ns.map PyData.int) + 1
  | _ => 0
def depDA : List D → Nat
  | [] => 0
  | x :: r => max (depD x) (depDA r)
end
mutual
theorem okD_lay : ∀ d : D, okD d = true → (toPy d).canLay0 = true
  | .non, _ => rfl
  | .bl _, _ => rfl
  | .int _, _ => rfl
  | .str l, h => by
    show PyData.strOk (sOf l) = true
    unfold PyData.strOk
    have : (sOf l).cps.all (· < 0x110000) = l.all (· < 0x110000) := by
      show l.toArray.all _ = _
      simp
    rw [this]; exact h
  | .lst xs, h => okDA_lay xs h
  | .tup xs, h => okDA_lay xs h
  | .scr _, h => by cases h
theorem okDA_lay : ∀ ds : List D, okDA ds = true → PyData.canLayAll0 (toPyA ds) = true
  | [], _ => rfl
  | x :: r, h => by
    have h : (okD x && okDA r) = true := h
    rw [Bool.and_eq_true] at h
    show ((toPy x).canLay0 && PyData.canLayAll0 (toPyA r)) = true
    rw [okD_lay x h.1, okDA_lay r h.2]; rfl
end
mutual
theorem depD_eq : ∀ d : D, (toPy d).depth = depD d
  | .non => rfl
  | .bl _ => rfl
  | .int _ => rfl
  | .str _ => rfl
  | .lst xs => by show PyData.depthAll (toPyA xs) + 1 = _; rw [depDA_eq xs]; rfl
  | .tup xs => by show PyData.depthAll (toPyA xs) + 1 = _; rw [depDA_eq xs]; rfl
  | .scr _ => rfl
theorem depDA_eq : ∀ ds : List D, PyData.depthAll (toPyA ds) = depDA ds
  | [] => rfl
  | x :: r => by show max (toPy x).depth (PyData.depthAll (toPyA r)) = _; rw [depD_eq x, depDA_eq r]; rfl
end
/-- may be compared as a whole -/
def shD (d : D) : Bool := okD d && decide (depD d ≤ 64)
theorem shD_ok {d : D} (h : shD d = true) : SeqAt.shaped (toPy d) = true := by
  unfold shD at h
  rw [Bool.and_eq_true, decide_eq_true_eq] at h
  show ((toPy d).canLay0 && decide ((toPy d).depth ≤ 64)) = true
  rw [okD_lay d h.1, depD_eq, decide_eq_true h.2]; rfl
def eqD (x y : D) : Bool := PyData.eqv (toPy x) (toPy y)

/-! ### operators -/
def rOr (r r' : R2) : R2 := fun x y H Q => r x y H Q ∨ r' x y H Q
def gAdd : D → D → Option D
  | .int i, .int j => some (.int (i + j))
  | .str a, .str b => if a.length + b.length ≤ 16777216 then some (.str (a ++ b)) else none
  | .tup a, .tup b => if a ≠ [] ∧ b ≠ [] ∧ a.length + b.length ≤ 16777216 then some (.tup (a ++ b)) else none
  | .lst a, .lst b => if a.length + b.length ≤ 16777216 then some (.lst (a ++ b)) else none
  | _, _ => none
def gSub : D → D → Option D
  | .int i, .int j => some (.int (i - j))
  | _, _ => none
def mulOk (i j : Int) : Bool := decide (i.natAbs.log2 + j.natAbs.log2 < 1000000) || decide (-(2 ^ 64) < i ∧ i < 2 ^ 64) || decide (-(2 ^ 64) < j ∧ j < 2 ^ 64)
def gMul : D → D → Option D
  | .int i, .int j => if mulOk i j = true then some (.int (i * j)) else none
  | .str l, .int k => if 0 ≤ k ∧ k ≤ 1000 ∧ l.length ≤ 10000 then some (.str (List.replicate k.toNat l).flatten) else none
  | _, _ => none
def gDiv : D → D → Option D
  | .int i, .int j => if 0 < j ∧ j.natAbs.log2 < 9000 then some (.int (i / j)) else none
  | _, _ => none
def gMod : D → D → Option D
  | .int i, .int j => if 0 < j then some (.int (i % j)) else none
  | _, _ => none
def gPow : D → D → Option D
  | .int i, .int j => if 0 ≤ j ∧ j ≤ 1000000 ∧ i.natAbs < 2 ^ 64 then some (.int (i ^ j.toNat)) else none
  | _, _ => none
def gEq : D → D → Option D
  | .int i, .int j => some (.bl (decide (i = j)))
  | .str i, .str j => some (.bl (decide (i = j)))
  | .bl i, .bl j => some (.bl (decide (i = j)))
  | x, y => if shD x = true ∧ shD y = true then some (.bl (eqD x y)) else none
def gNe : D → D → Option D
  | .int i, .int j => some (.bl (!decide (i = j)))
  | .str i, .str j => some (.bl (!decide (i = j)))
  | .bl i, .bl j => some (.bl (!decide (i = j)))
  | x, y => if shD x = true ∧ shD y = true then some (.bl (!eqD x y)) else none
def gLt : D → D → Option D
  | .int i, .int j => some (.bl (decide (i < j)))
  | .str i, .str j => some (.bl (decide (i < j)))
  | _, _ => none
def gLe : D → D → Option D
  | .int i, .int j => some (.bl (decide (i ≤ j)))
  | _, _ => none
def gGt : D → D → Option D
  | .int i, .int j => some (.bl (decide (j < i)))
  | _, _ => none
def gGe : D → D → Option D
  | .int i, .int j => some (.bl (decide (j ≤ i)))
  | .str i, .str j => some (.bl (!decide (i < j)))
  | _, _ => none
def gIs : D → D → Option D
  | .bl i, .bl j => some (.bl (decide (i = j)))
  | .non, .non => some (.bl true)
  | _, .non => some (.bl false)
  | _, _ => none
def gIsNot : D → D → Option D
  | .bl i, .bl j => some (.bl (!decide (i = j)))
  | .non, .non => some (.bl false)
  | _, .non => some (.bl true)
  | _, _ => none
theorem OpR.or' {X : Cx} {f : Value → Value → Sem Value} {r r' : R2} (h : OpR X f r) (h' : OpR X f r') : OpR X f (rOr r r') := by
  intro pins s σ H x y v u Q I rx ry q
  rcases q with q | q
  · exact h pins s σ H x y v u Q I rx ry q
  · exact h' pins s σ H x y v u Q I rx ry q
section
variable {Γ : Gm}
theorem p_add : Op2 Γ (binaryOp .Add) gAdd := by
  refine ⟨fun X F => ⟨_, (OpR.or' op_add (OpR.or' op_add_str (OpR.or' op_catT op_catS))), fun x y d hd v u H Q rx ry k => ?_⟩⟩
  unfold gAdd at hd
  split at hd
  · cases hd
    exact .inl ⟨_, _, rx.int_of, ry.int_of, k _ H (.refl _) (.int _)⟩
  · rename_i a b
    split at hd
    · rename_i hl
      cases hd
      obtain ⟨e1, _⟩ := rx.str_of
      obtain ⟨e2, _⟩ := ry.str_of
      have hz : (a ++ b).length ≤ sizeLine := by rw [List.length_append, sizeLine_eq]; exact hl
      refine .inr (.inl ⟨_, _, e1, e2, by rw [sOf_len, sOf_len, sizeLine_eq]; exact hl, ?_⟩)
      have e : sOf a ++ sOf b = sOf (a ++ b) := by
        show (⟨a.toArray ++ b.toArray⟩ : Str) = ⟨(a ++ b).toArray⟩
        simp
      rw [e]
      exact k _ H (.refl _) (.str hz)
    · cases hd
  · rename_i a b
    split at hd
    · rename_i hl
      cases hd
      obtain ⟨p, vs, rfl, h1, h2⟩ := rx.tup_of
      obtain ⟨q, ws, rfl, h3, h4⟩ := ry.tup_of
      have e1 := h2.length
      have e2 := h4.length
      refine .inr (.inr (.inl ⟨p, q, vs, ws, rfl, rfl, h1, h3, fun z => hl.1 (by subst z; cases h2; rfl), by rw [e1, e2, sizeLine_eq]; exact hl.2.2, fun z => absurd (by subst z; cases h4; rfl) hl.2.1, fun _ t ht => ?_⟩))
      have sm : Same H (upd H t (.tup (vs ++ ws))) := fun b o e => by rw [upd_ne (ne_of_none e ht)]; exact e
      exact k _ _ sm (.tup (.inl (.inl upd_same)) ((h2.append h4).mo (.of sm)))
    · cases hd
  · rename_i a b
    split at hd
    · rename_i hl
      cases hd
      obtain ⟨p, vs, rfl, h1, h2⟩ := rx.lst_of
      obtain ⟨q, ws, rfl, h3, h4⟩ := ry.lst_of
      have e1 := h2.length
      have e2 := h4.length
      refine .inr (.inr (.inr ⟨p, q, vs, ws, rfl, rfl, h1.seq, h3.seq, by rw [e1, e2, sizeLine_eq]; exact hl, fun t ob ht => ?_⟩))
      have sm : Same H (upd H t (.frz ob (.lst (vs ++ ws)))) := fun b o e => by rw [upd_ne (ne_of_none e ht)]; exact e
      exact k _ _ sm (.lst ⟨ob, upd_same⟩ ((h2.append h4).mo (.of sm)))
    · cases hd
  · cases hd
theorem p_sub : Op2 Γ (binaryOp .Sub) gSub := by
  refine ⟨fun X F => ⟨_, op_sub, fun x y d hd v u H Q rx ry k => ?_⟩⟩
  unfold gSub at hd
  split at hd
  · cases hd
    exact ⟨_, _, rx.int_of, ry.int_of, k _ H (.refl _) (.int _)⟩
  · cases hd
theorem p_mul : Op2 Γ (binaryOp .Mult) gMul := by
  refine ⟨fun X F => ⟨_, (OpR.or' op_mul (OpR.or' op_mulW op_mulS)), fun x y d hd v u H Q rx ry k => ?_⟩⟩
  unfold gMul at hd
  split at hd
  · rename_i i j
    split at hd
    · rename_i hm
      cases hd
      unfold mulOk at hm
      rw [Bool.or_eq_true, Bool.or_eq_true, decide_eq_true_eq, decide_eq_true_eq, decide_eq_true_eq] at hm
      rcases hm with (hm | hm) | hm
      · exact .inr (.inl ⟨_, _, rx.int_of, ry.int_of, hm, k _ H (.refl _) (.int _)⟩)
      · exact .inl ⟨_, _, rx.int_of, ry.int_of, .inl hm, k _ H (.refl _) (.int _)⟩
      · exact .inl ⟨_, _, rx.int_of, ry.int_of, .inr hm, k _ H (.refl _) (.int _)⟩
    · cases hd
  · rename_i l j
    split at hd
    · rename_i hm
      cases hd
      refine .inr (.inr ⟨l, j, rx.str_of.1, ry.int_of, hm.1, hm.2.1, hm.2.2, k _ H (.refl _) (.str ?_)⟩)
      rw [List.length_flatten, List.map_replicate, List.sum_replicate_nat, sizeLine_eq]
      have : j.toNat * l.length ≤ 1000 * 10000 := Nat.mul_le_mul (by omega) hm.2.2
      omega
    · cases hd
  · cases hd
theorem p_div : Op2 Γ (binaryOp .FloorDiv) gDiv := by
  refine ⟨fun X F => ⟨_, op_fdivW, fun x y d hd v u H Q rx ry k => ?_⟩⟩
  unfold gDiv at hd
  split at hd
  · rename_i i j
    split at hd
    · rename_i hm
      cases hd
      exact ⟨_, _, rx.int_of, ry.int_of, hm, k _ H (.refl _) (.int _)⟩
    · cases hd
  · cases hd
theorem p_mod : Op2 Γ (binaryOp .Mod) gMod := by
  refine ⟨fun X F => ⟨_, op_mod, fun x y d hd v u H Q rx ry k => ?_⟩⟩
  unfold gMod at hd
  split at hd
  · rename_i i j
    split at hd
    · rename_i hm
      cases hd
      exact ⟨_, _, rx.int_of, ry.int_of, hm, k _ H (.refl _) (.int _)⟩
    · cases hd
  · cases hd
theorem p_pow : Op2 Γ (binaryOp .Pow) gPow := by
  refine ⟨fun X F => ⟨_, op_pow, fun x y d hd v u H Q rx ry k => ?_⟩⟩
  unfold gPow at hd
  split at hd
  · rename_i i j
    split at hd
    · rename_i hm
      cases hd
      exact ⟨_, _, rx.int_of, ry.int_of, hm, k _ H (.refl _) (.int _)⟩
    · cases hd
  · cases hd
theorem dec_sOf (i j : List Nat) : decide (V.str (sOf i) = V.str (sOf j)) = decide (i = j) := by
  by_cases e : i = j
  · subst e; simp
  · rw [decide_eq_false e, decide_eq_false]
    intro h
    exact e (sOf_inj (V.str.inj h))
theorem p_eq : Op2 Γ (compareOp .Eq) gEq := by
  refine ⟨fun X F => ⟨_, (OpR.or' op_eq (op_eqD (by have := F.un; omega))), fun x y d hd v u H Q rx ry k => ?_⟩⟩
  unfold gEq at hd
  split at hd
  · rename_i i j
    cases hd
    rw [rx.int_of, ry.int_of]
    refine .inl ⟨rfl, ?_⟩
    rw [show decide (V.int i = V.int j) = decide (i = j) by
      by_cases e : i = j
      · subst e; simp
      · rw [decide_eq_false e, decide_eq_false]; exact fun h => e (V.int.inj h)]
    exact k _ H (.refl _) (.bl _)
  · rename_i i j
    cases hd
    rw [rx.str_of.1, ry.str_of.1]
    refine .inl ⟨rfl, ?_⟩
    rw [dec_sOf]
    exact k _ H (.refl _) (.bl _)
  · rename_i i j
    cases hd
    rw [rx.bl_of, ry.bl_of]
    refine .inl ⟨rfl, ?_⟩
    rw [show decide (V.bl i = V.bl j) = decide (i = j) by
      by_cases e : i = j
      · subst e; simp
      · rw [decide_eq_false e, decide_eq_false]; exact fun h => e (V.bl.inj h)]
    exact k _ H (.refl _) (.bl _)
  · split at hd
    · rename_i hs
      cases hd
      exact .inr ⟨_, _, dp_of rx, dp_of ry, shD_ok hs.1, shD_ok hs.2, k _ H (.refl _) (.bl _)⟩
    · cases hd
theorem p_ne : Op2 Γ (compareOp .NotEq) gNe := by
  refine ⟨fun X F => ⟨_, (OpR.or' op_ne (op_neD (by have := F.un; omega))), fun x y d hd v u H Q rx ry k => ?_⟩⟩
  unfold gNe at hd
  split at hd
  · rename_i i j
    cases hd
    rw [rx.int_of, ry.int_of]
    refine .inl ⟨rfl, ?_⟩
    rw [show decide (V.int i = V.int j) = decide (i = j) by
      by_cases e : i = j
      · subst e; simp
      · rw [decide_eq_false e, decide_eq_false]; exact fun h => e (V.int.inj h)]
    exact k _ H (.refl _) (.bl _)
  · rename_i i j
    cases hd
    rw [rx.str_of.1, ry.str_of.1]
    refine .inl ⟨rfl, ?_⟩
    rw [dec_sOf]
    exact k _ H (.refl _) (.bl _)
  · rename_i i j
    cases hd
    rw [rx.bl_of, ry.bl_of]
    refine .inl ⟨rfl, ?_⟩
    rw [show decide (V.bl i = V.bl j) = decide (i = j) by
      by_cases e : i = j
      · subst e; simp
      · rw [decide_eq_false e, decide_eq_false]; exact fun h => e (V.bl.inj h)]
    exact k _ H (.refl _) (.bl _)
  · split at hd
    · rename_i hs
      cases hd
      exact .inr ⟨_, _, dp_of rx, dp_of ry, shD_ok hs.1, shD_ok hs.2, k _ H (.refl _) (.bl _)⟩
    · cases hd
theorem p_lt : Op2 Γ (compareOp .Lt) gLt := by
  refine ⟨fun X F => ⟨_, (OpR.or' op_lt op_lt_str), fun x y d hd v u H Q rx ry k => ?_⟩⟩
  unfold gLt at hd
  split at hd
  · cases hd
    exact .inl ⟨_, _, rx.int_of, ry.int_of, k _ H (.refl _) (.bl _)⟩
  · rename_i i j
    cases hd
    refine .inr ⟨_, _, rx.str_of.1, ry.str_of.1, ?_⟩
    simp only [sOf_list]
    exact k _ H (.refl _) (.bl _)
  · cases hd
theorem p_le : Op2 Γ (compareOp .LtE) gLe := by
  refine ⟨fun X F => ⟨_, op_le, fun x y d hd v u H Q rx ry k => ?_⟩⟩
  unfold gLe at hd
  split at hd
  · cases hd
    exact ⟨_, _, rx.int_of, ry.int_of, k _ H (.refl _) (.bl _)⟩
  · cases hd
theorem p_gt : Op2 Γ (compareOp .Gt) gGt := by
  refine ⟨fun X F => ⟨_, op_gt, fun x y d hd v u H Q rx ry k => ?_⟩⟩
  unfold gGt at hd
  split at hd
  · cases hd
    exact ⟨_, _, rx.int_of, ry.int_of, k _ H (.refl _) (.bl _)⟩
  · cases hd
theorem p_ge : Op2 Γ (compareOp .GtE) gGe := by
  refine ⟨fun X F => ⟨_, (OpR.or' op_ge op_ge_str), fun x y d hd v u H Q rx ry k => ?_⟩⟩
  unfold gGe at hd
  split at hd
  · cases hd
    exact .inl ⟨_, _, rx.int_of, ry.int_of, k _ H (.refl _) (.bl _)⟩
  · rename_i i j
    cases hd
    refine .inr ⟨_, _, rx.str_of.1, ry.str_of.1, ?_⟩
    simp only [sOf_list]
    exact k _ H (.refl _) (.bl _)
  · cases hd
theorem Rp.not_non {K : PySem.W.Frag} {H : Hp} {v : V} {d : D} (r : Rp K H v d) (h : d ≠ .non) : v ≠ .non := by
  cases r <;> first | exact absurd rfl h | (intro z; cases z)
theorem p_is : Op2 Γ (compareOp .Is) gIs := by
  refine ⟨fun X F => ⟨_, (OpR.or' op_isBl op_isN), fun x y d hd v u H Q rx ry k => ?_⟩⟩
  unfold gIs at hd
  split at hd
  · cases hd
    exact .inl ⟨_, _, rx.bl_of, ry.bl_of, k _ H (.refl _) (.bl _)⟩
  · cases hd
    rw [rx.non_of, ry.non_of]
    exact .inr ⟨rfl, k _ H (.refl _) (.bl _)⟩
  · rename_i h
    cases hd
    rw [ry.non_of]
    refine .inr ⟨rfl, ?_⟩
    rw [decide_eq_false (rx.not_non h)]
    exact k _ H (.refl _) (.bl _)
  · cases hd
theorem p_isNot : Op2 Γ (compareOp .IsNot) gIsNot := by
  refine ⟨fun X F => ⟨_, (OpR.or' op_notBl op_notN), fun x y d hd v u H Q rx ry k => ?_⟩⟩
  unfold gIsNot at hd
  split at hd
  · cases hd
    exact .inl ⟨_, _, rx.bl_of, ry.bl_of, k _ H (.refl _) (.bl _)⟩
  · cases hd
    rw [rx.non_of, ry.non_of]
    exact .inr ⟨rfl, k _ H (.refl _) (.bl _)⟩
  · rename_i h
    cases hd
    rw [ry.non_of]
    refine .inr ⟨rfl, ?_⟩
    rw [decide_eq_false (rx.not_non h)]
    exact k _ H (.refl _) (.bl _)
  · cases hd
end
end DD

end
section
set_option Elab.async false
set_option linter.all false
set_option maxRecDepth 100000
set_option maxHeartbeats 1000000
/-! D4a: one sign sought in a text; a text from behind. -/
namespace DD
open PySem PySem.Spec PyProof.Rows L2

def fst1 (c : Nat) : List Nat → Option Nat
  | [] => none
  | x :: r => if x = c then some 0 else (fst1 c r).map (· + 1)
def lst1 (c : Nat) : List Nat → Option Nat
  | [] => none
  | x :: r => match lst1 c r with
    | some i => some (i + 1)
    | none => if x = c then some 0 else none
theorem fst1_none {c : Nat} : ∀ {l : List Nat}, fst1 c l = none ↔ c ∉ l
  | [] => by simp [fst1]
  | x :: r => by
    unfold fst1
    by_cases e : x = c
    · rw [if_pos e]; simp [e]
    · rw [if_neg e, Option.map_eq_none_iff, fst1_none]
      simp only [List.mem_cons, not_or]
      exact ⟨fun h => ⟨fun z => e z.symm, h⟩, fun h => h.2⟩
theorem fst1_some {c : Nat} : ∀ {l : List Nat} {i : Nat}, fst1 c l = some i ↔ l[i]? = some c ∧ ∀ j, j < i → l[j]? ≠ some c
  | [], i => by simp [fst1]
  | x :: r, i => by
    unfold fst1
    by_cases e : x = c
    · rw [if_pos e]
      subst e
      constructor
      · intro h
        cases h
        exact ⟨rfl, fun j hj => absurd hj (Nat.not_lt_zero _)⟩
      · rintro ⟨h1, h2⟩
        cases i with
        | zero => rfl
        | succ i => exact absurd rfl (h2 0 (Nat.succ_pos _))
    · rw [if_neg e, Option.map_eq_some_iff]
      constructor
      · rintro ⟨k, hk, rfl⟩
        obtain ⟨h1, h2⟩ := fst1_some.mp hk
        refine ⟨by simpa using h1, fun j hj => ?_⟩
        cases j with
        | zero => simpa using e
        | succ j => simpa using h2 j (by omega)
      · rintro ⟨h1, h2⟩
        cases i with
        | zero => exact absurd (by simpa using h1) e
        | succ i => exact ⟨i, fst1_some.mpr ⟨by simpa using h1, fun j hj => by simpa using h2 (j + 1) (by omega)⟩, rfl⟩
theorem lst1_none {c : Nat} : ∀ {l : List Nat}, lst1 c l = none ↔ c ∉ l
  | [] => by simp [lst1]
  | x :: r => by
    unfold lst1
    cases h : lst1 c r with
    | some i =>
      have : c ∈ r := Classical.byContradiction fun z => by rw [lst1_none.mpr z] at h; cases h
      simp [this]
    | none =>
      have := lst1_none.mp h
      by_cases e : x = c
      · simp [e]
      · simp only [if_neg e, List.mem_cons, not_or, true_iff]
        exact ⟨fun z => e z.symm, this⟩
theorem lst1_some {c : Nat} : ∀ {l : List Nat} {i : Nat}, lst1 c l = some i ↔ l[i]? = some c ∧ ∀ j, i < j → l[j]? ≠ some c
  | [], i => by simp [lst1]
  | x :: r, i => by
    unfold lst1
    cases h : lst1 c r with
    | some k =>
      obtain ⟨h1, h2⟩ := lst1_some.mp h
      constructor
      · intro e
        cases e
        refine ⟨by simpa using h1, fun j hj => ?_⟩
        cases j with
        | zero => omega
        | succ j => simpa using h2 j (by omega)
      · rintro ⟨g1, g2⟩
        cases i with
        | zero => exact absurd (by simpa using h1) (g2 (k + 1) (by omega))
        | succ i =>
          have : lst1 c r = some i := lst1_some.mpr ⟨by simpa using g1, fun j hj => by simpa using g2 (j + 1) (by omega)⟩
          rw [h] at this
          cases this
          rfl
    | none =>
      have hn := lst1_none.mp h
      have no : ∀ j : Nat, r[j]? ≠ some c := fun j e => hn (List.mem_of_getElem? e)
      by_cases e : x = c
      · subst e
        simp only [if_true]
        constructor
        · intro z
          cases z
          refine ⟨rfl, fun j hj => ?_⟩
          cases j with
          | zero => omega
          | succ j => simpa using no j
        · rintro ⟨g1, g2⟩
          cases i with
          | zero => rfl
          | succ i => exact absurd (by simpa using g1) (no i)
      · simp only [if_neg e]
        constructor
        · intro z; cases z
        · rintro ⟨g1, g2⟩
          cases i with
          | zero => exact absurd (by simpa using g1) e
          | succ i => exact absurd (by simpa using g1) (no i)

open PySem.StrLaws PySem.Builtin.Str in
theorem occ_fixed (s sub : Str) (hi : Nat) : ∀ (l : List Nat) (st : Array Nat × Nat), 1 ≤ st.1.size → (forIn l st (occBody s sub hi 1)).run = st
  | [], st, _ => rfl
  | a :: l, st, h => by
    rw [List.forIn_cons]
    unfold occBody
    rw [if_neg (by omega)]
    exact occ_fixed s sub hi l st h
open PySem.StrLaws PySem.Builtin.Str in
theorem occ_first (s sub : Str) (hi : Nat) : ∀ (l : List Nat) (free : Nat), (∀ i ∈ l, free ≤ i) →
    (forIn l ((#[] : Array Nat), free) (occBody s sub hi 1)).run.1.toList = match l.find? (fun i => decide (i + sub.length ≤ hi ∧ subAt s sub i = true)) with
      | some i => [i]
      | none => []
  | [], free, _ => rfl
  | a :: l, free, hf => by
    rw [List.forIn_cons, List.find?_cons]
    by_cases hc : a + sub.length ≤ hi ∧ subAt s sub a = true
    · rw [decide_eq_true hc]
      unfold occBody
      rw [if_pos ⟨⟨⟨by simp, hf a List.mem_cons_self⟩, hc.1⟩, hc.2⟩]
      show (forIn l ((#[] : Array Nat).push a, a + sub.length) (occBody s sub hi 1)).run.1.toList = [a]
      rw [occ_fixed s sub hi l _ (by simp)]
      simp
    · rw [decide_eq_false hc]
      unfold occBody
      rw [if_neg (fun z => hc ⟨z.1.2, z.2⟩)]
      exact occ_first s sub hi l free fun i hi' => hf i (List.mem_cons_of_mem _ hi')
theorem find_range_is {p : Nat → Bool} {n : Nat} {o : Option Nat} (h1 : ∀ i, o = some i → i < n ∧ p i = true ∧ ∀ j, j < i → p j = false) (h2 : o = none → ∀ j, j < n → p j = false) : (List.range n).find? p = o := by
  cases o with
  | none =>
    rw [List.find?_eq_none]
    intro x hx
    rw [h2 rfl x (List.mem_range.mp hx)]
    simp
  | some i =>
    obtain ⟨a, b, c⟩ := h1 i rfl
    rw [List.find?_range_eq_some]
    exact ⟨b, List.mem_range.mpr a, fun j hj => by simp [c j hj]⟩
open PySem.StrLaws PySem.Builtin.Str in
theorem occ_one (l : List Nat) (c : Nat) : occurrences (sOf l) (sOf [c]) 0 (sOf l).length 1 = match fst1 c l with
    | some i => [i]
    | none => [] := by
  rw [occ_eq, occ_first _ _ _ _ _ (fun i _ => Nat.zero_le i)]
  have e : (List.range' 0 ((sOf l).length + 1 - 0)).find? (fun i => decide (i + (sOf [c]).length ≤ (sOf l).length ∧ subAt (sOf l) (sOf [c]) i = true)) = fst1 c l := by
    rw [← List.range_eq_range', Nat.sub_zero, sOf_len]
    have key : ∀ i, decide (i + (sOf [c]).length ≤ (sOf l).length ∧ subAt (sOf l) (sOf [c]) i = true) = decide (l[i]? = some c) := fun i => by
      have := subAt_one (sOf l) c i
      rw [sOf_list] at this
      exact decide_eq_decide.mpr this
    simp only [sOf_len] at key ⊢
    rw [show (fun i => decide (i + [c].length ≤ l.length ∧ subAt (sOf l) (sOf [c]) i = true)) = fun i => decide (l[i]? = some c) from funext key]
    refine find_range_is (fun i hi => ?_) (fun hn j _ => ?_)
    · obtain ⟨h1, h2⟩ := fst1_some.mp hi
      have hlt := (List.getElem?_eq_some_iff.mp h1).1
      exact ⟨by omega, decide_eq_true h1, fun j hj => decide_eq_false (h2 j hj)⟩
    · exact decide_eq_false fun z => fst1_none.mp hn (List.mem_of_getElem? z)
  rw [e]
open PySem.StrLaws PySem.Builtin.Str in
theorem last_one (l : List Nat) (c : Nat) : lastOccurrence (sOf l) (sOf [c]) 0 (sOf l).length = lst1 c l := by
  have key : ∀ i, (i + (sOf [c]).length ≤ (sOf l).length ∧ subAt (sOf l) (sOf [c]) i = true) ↔ l[i]? = some c := fun i => by
    have := subAt_one (sOf l) c i
    rw [sOf_list] at this
    exact this
  have gen : ∀ (is : List Nat) (last : Option Nat), (forIn is last (fun i (r : Option Nat) => (if (decide (i + (sOf [c]).length ≤ (sOf l).length) && subAt (sOf l) (sOf [c]) i) = true then pure (ForInStep.yield (some i)) else pure (ForInStep.yield r) : Id (ForInStep (Option Nat))))).run =
      is.foldl (fun r i => if l[i]? = some c then some i else r) last := by
    intro is
    induction is with
    | nil => intro last; rfl
    | cons a is ih =>
      intro last
      rw [List.forIn_cons, List.foldl_cons]
      by_cases h : l[a]? = some c
      · rw [if_pos h, if_pos (by rw [Bool.and_eq_true, decide_eq_true_eq]; exact (key a).mpr h)]
        exact ih _
      · rw [if_neg h, if_neg (by rw [Bool.and_eq_true, decide_eq_true_eq]; exact fun z => h ((key a).mp z))]
        exact ih _
  have fold : ∀ n, n ≤ l.length + 1 → (List.range n).foldl (fun r i => if l[i]? = some c then some i else r) none = lst1 c (l.take n) := by
    intro n
    induction n with
    | zero => intro _; rfl
    | succ n ih =>
      intro hn
      rw [List.range_succ, List.foldl_append, ih (by omega)]
      show (if l[n]? = some c then some n else lst1 c (l.take n)) = _
      have app : ∀ (x : Nat) (m : List Nat), lst1 c (m ++ [x]) = if x = c then some m.length else lst1 c m := by
        intro x m
        induction m with
        | nil => simp [lst1]
        | cons y m ih =>
          rw [List.cons_append]
          unfold lst1
          rw [ih]
          by_cases e : x = c
          · simp [e]
          · simp [e]
      cases hx : l[n]? with
      | none =>
        have : l.length ≤ n := List.getElem?_eq_none_iff.mp hx
        rw [if_neg (by simp), List.take_of_length_le this, List.take_of_length_le (by omega)]
      | some x =>
        rw [List.take_add_one, hx]
        show _ = lst1 c (l.take n ++ [x])
        rw [app]
        have hlt := (List.getElem?_eq_some_iff.mp hx).1
        have hl : (l.take n).length = n := by rw [List.length_take]; omega
        by_cases e : x = c
        · rw [if_pos (by rw [e]), if_pos e, hl]
        · rw [if_neg (fun z => e (Option.some.inj z)), if_neg e]
  have h1 := gen (List.range' 0 ((sOf l).length + 1 - 0)) none
  rw [← List.range_eq_range', Nat.sub_zero, sOf_len, fold _ (Nat.le_refl _), List.take_of_length_le (by omega)] at h1
  rw [← h1]
  unfold lastOccurrence
  simp only [sOf_len]
  rw [List.range_eq_range']
  simp
/-! ### from behind -/
theorem back_places (n : Nat) : Builtin.Str.strSliceIndices none none (-1) n = (List.range n).map fun k => n - 1 - k := by
  unfold Builtin.Str.strSliceIndices sliceRange
  have h0 : ¬ ((-1 : Int) > 0) := by decide
  simp only [h0, if_false]
  have e : ((if ((n : Int) - 1) > -1 then ((n : Int) - 1 - -1 - -1 - 1) / (- -1) else 0) : Int).toNat = n := by
    split
    · have : ((n : Int) - 1 - -1 - -1 - 1) = n := by omega
      rw [this]
      simp
    · have : n = 0 := by omega
      simp [this]
  rw [e]
  refine List.map_congr_left fun k hk => ?_
  have := List.mem_range.mp hk
  omega
theorem fm_congr {α β : Type} {f g : α → Option β} : ∀ {l : List α}, (∀ x ∈ l, f x = g x) → l.filterMap f = l.filterMap g
  | [], _ => rfl
  | x :: r, h => by
    rw [List.filterMap_cons, List.filterMap_cons, h x List.mem_cons_self, fm_congr fun y hy => h y (List.mem_cons_of_mem _ hy)]
theorem back_pick (l : List Nat) : (Builtin.Str.strSliceIndices none none (-1) l.length).filterMap (fun i => (sOf l).cps[i]?) = l.reverse := by
  rw [back_places]
  have e : ∀ i, (sOf l).cps[i]? = l[i]? := fun i => by
    rw [← Array.getElem?_toList, sOf_list]
  simp only [e]
  apply List.ext_getElem?
  intro i
  rw [List.filterMap_map]
  have : (List.range l.length).filterMap ((fun i => l[i]?) ∘ fun k => l.length - 1 - k) = (List.range l.length).map fun k => l.reverse.getD k 0 := by
    rw [← List.filterMap_eq_map]
    refine fm_congr fun k hk => ?_
    have hk := List.mem_range.mp hk
    show l[l.length - 1 - k]? = some (l.reverse.getD k 0)
    rw [List.getD_eq_getElem?_getD, List.getElem?_reverse hk, List.getElem?_eq_getElem (by omega)]
    rfl
  rw [this, List.getElem?_map]
  by_cases hi : i < l.length
  · rw [List.getElem?_range hi]
    show some (l.reverse.getD i 0) = _
    rw [List.getD_eq_getElem?_getD, List.getElem?_eq_getElem (by simpa using hi)]
    rfl
  · rw [List.getElem?_eq_none (by simpa using hi), List.getElem?_eq_none (by simpa using hi)]
    rfl
end DD

end
section
set_option Elab.async false
set_option linter.all false
set_option maxRecDepth 100000
set_option maxHeartbeats 1000000
/-! D4b: chains, in, isinstance, methods of texts, subscripts, slices, displays. -/
namespace DD
open PySem PySem.Spec PyProof.Rows L2
section
variable {Γ : Gm} {pos : Pos} {a b c e e2 : Expr} {ea eb ec ev : EV} {es : ES}

/-! ### a < b < c -/
def eChn (g g' : D → D → Option D) (ea eb ec : EV) : EV := fun L => (ea L).bind fun p => (eb p.2).bind fun q => (g p.1 q.1).bind fun d => match d with
  | .bl true => (ec q.2).bind fun r => (g' q.1 r.1).map fun d' => (d', r.2)
  | .bl false => some (.bl false, q.2)
  | _ => none
theorem tChain_of {K : PySem.W.Frag} {r r' : R2} {g g' : D → D → Option D} (hr : ∀ x y d, g x y = some d → ∀ v u H Q, Rp K H v x → Rp K H u y → (∀ w H', Same H H' → Rp K H' w d → Q w H') → r v u H Q)
    (hr' : ∀ x y d, g' x y = some d → ∀ v u H Q, Rp K H v x → Rp K H u y → (∀ w H', Same H H' → Rp K H' w d → Q w H') → r' v u H Q) :
    ∀ σ H Q, tV K (eChn g g' ea eb ec) σ H Q → tChain r r' (tV K ea) (tV K eb) (tV K ec) σ H Q := fun σ H Q h => by
  obtain ⟨B, L, d, L', R, e, q⟩ := h
  unfold eChn at e
  obtain ⟨⟨x, L1⟩, h1, e⟩ := Option.bind_eq_some_iff.mp e
  obtain ⟨⟨y, L2⟩, h2, e⟩ := Option.bind_eq_some_iff.mp e
  obtain ⟨d1, h3, e⟩ := Option.bind_eq_some_iff.mp e
  refine ⟨B, L, x, L1, R, h1, fun v H1 R1 s1 l1 r1 => ⟨B, L1, y, L2, R1, h2, fun u H2 R2 s2 l2 r2 => ?_⟩⟩
  have mo := R1.mo s2
  refine hr x y d1 h3 v u H2 _ (r1.mo mo) r2 fun w H3 sm r3 => ?_
  cases d1 with
  | bl k =>
    refine ⟨k, r3.bl_of, ?_⟩
    cases k with
    | true =>
      refine iteT ?_
      obtain ⟨⟨z, L3⟩, h4, e⟩ := Option.bind_eq_some_iff.mp e
      obtain ⟨d', h5, e⟩ := Option.map_eq_some_iff.mp e
      cases e
      refine ⟨B, L2, z, _, R2.grow sm, h4, fun w' H4 R4 s4 l4 r4 => ?_⟩
      have mo4 := (R2.grow sm).mo s4
      exact hr' y z d h5 u w' H4 Q ((r2.mo (Mo.of sm)).mo mo4) r4 fun w'' H5 sm5 r5 => q w'' H5 (R4.grow sm5)
        (((s1.trans l1 s2).trans (l1.trans l2) (.of_same sm)).trans (l1.trans l2) (s4.trans l4 (.of_same sm5))) ((l1.trans l2).trans l4) r5
    | false =>
      refine iteF ?_
      cases e
      exact q _ H3 (R2.grow sm) ((s1.trans l1 s2).trans (l1.trans l2) (.of_same sm)) (l1.trans l2) (.bl false)
  | _ => cases e
theorem je_chain {op op' : CmpOp} {g g' : D → D → Option D} (ho : Op2 Γ (compareOp op) g) (ho' : Op2 Γ (compareOp op') g') (ha : JE Γ a ea) (hb : JE Γ b eb) (hc : JE Γ c ec) (hm : lastMarks [op, op'] [b, c] = false) : JE Γ (.Compare a [op, op'] [b, c] pos) (eChn g g' ea eb ec) := by
  refine ⟨fun _ _ => rfl, fun X f => ?_⟩
  obtain ⟨r, h1, h2⟩ := ho.run X f
  obtain ⟨r', h3, h4⟩ := ho'.run X f
  exact pe_mono (pe_chain h1 h3 (ha.run X f) (hb.run X f) (hc.run X f) hm) (tChain_of h2 h4)
theorem jt_chain {op op' : CmpOp} {g g' : D → D → Option D} (ho : Op2 Γ (compareOp op) g) (ho' : Op2 Γ (compareOp op') g') (ha : JE Γ a ea) (hb : JE Γ b eb) (hc : JE Γ c ec) (hm : lastMarks [op, op'] [b, c] = false) : JT Γ (.Compare a [op, op'] [b, c] pos) (etB (eChn g g' ea eb ec)) := by
  refine ⟨fun X f => ?_⟩
  obtain ⟨r, h1, h2⟩ := ho.run X f
  obtain ⟨r', h3, h4⟩ := ho'.run X f
  refine pt_mono (pt_chain h1 h3 (ha.run X f) (hb.run X f) (hc.run X f) hm) fun σ H Q h => ?_
  obtain ⟨B, L, d, L', R, e, q⟩ := h
  refine tChain_of h2 h4 σ H _ ⟨B, L, _, _, R, etB_some e, fun v H' R' s l r => ?_⟩
  exact ⟨d, r.bl_of, q H' R' s l⟩

/-! ### what is read on the right: in, not in -/
structure Op2S (Γ : Gm) (f : Value → Value → Sem Value) (g : D → Sq → Option D) : Prop where
  run : ∀ X, Fits Γ X → ∃ r : R2, OpR X f r ∧ ∀ x s d, g x s = some d → ∀ v u H Q, Rp X.K H v x → RpS X.K H u s → (∀ w H', Same H H' → Rp X.K H' w d → Q w H') → r v u H Q
def eOpS (g : D → Sq → Option D) (ea : EV) (es : ES) : EV := fun L => (ea L).bind fun p => (es p.2).bind fun q => (g p.1 q.1).map fun d => (d, q.2)
theorem tOpS_of {K : PySem.W.Frag} {r : R2} {g : D → Sq → Option D} (hr : ∀ x y d, g x y = some d → ∀ v u H Q, Rp K H v x → RpS K H u y → (∀ w H', Same H H' → Rp K H' w d → Q w H') → r v u H Q) :
    ∀ σ H Q, tV K (eOpS g ea es) σ H Q → tOp r (tV K ea) (tSq K es) σ H Q := fun σ H Q h => by
  obtain ⟨B, L, d, L', R, e, q⟩ := h
  unfold eOpS at e
  obtain ⟨⟨x, L1⟩, h1, e⟩ := Option.bind_eq_some_iff.mp e
  obtain ⟨⟨y, L2⟩, h2, e⟩ := Option.bind_eq_some_iff.mp e
  obtain ⟨d', h3, e⟩ := Option.map_eq_some_iff.mp e
  cases e
  refine ⟨B, L, x, L1, R, h1, fun v H1 R1 s1 l1 r1 => ⟨B, L1, y, _, R1, h2, fun u H2 R2 s2 l2 r2 => ?_⟩⟩
  have mo := R1.mo s2
  exact hr x y d h3 v u H2 _ (r1.mo mo) r2 fun w H3 sm r3 => q w H3 (R2.grow sm) ((s1.trans l1 s2).trans (l1.trans l2) (.of_same sm)) (l1.trans l2) r3
theorem je_opS {op : CmpOp} {g : D → Sq → Option D} (ho : Op2S Γ (compareOp op) g) (ha : JE Γ a ea) (hb : JS Γ b es) (hm : behindInMarks op b = false) : JE Γ (.Compare a [op] [b] pos) (eOpS g ea es) := by
  refine ⟨fun _ _ => rfl, fun X f => ?_⟩
  obtain ⟨r, h1, h2⟩ := ho.run X f
  exact pe_mono (pe_cmpR h1 (ha.run X f) (hb.run X f) hm) (tOpS_of h2)
theorem jt_opS {op : CmpOp} {g : D → Sq → Option D} (ho : Op2S Γ (compareOp op) g) (ha : JE Γ a ea) (hb : JS Γ b es) (hm : behindInMarks op b = false) : JT Γ (.Compare a [op] [b] pos) (etB (eOpS g ea es)) := by
  refine ⟨fun X f => ?_⟩
  obtain ⟨r, h1, h2⟩ := ho.run X f
  refine pt_mono (pt_cmpR h1 (ha.run X f) (hb.run X f) hm) fun σ H Q h => ?_
  obtain ⟨B, L, d, L', R, e, q⟩ := h
  refine tOpS_of h2 σ H _ ⟨B, L, _, _, R, etB_some e, fun v H' R' s l r => ?_⟩
  exact ⟨d, r.bl_of, q H' R' s l⟩

def flatD : D → Bool
  | .non => true
  | .bl _ => true
  | .int _ => true
  | .str _ => true
  | _ => false
def eqF : D → D → Bool
  | .non, .non => true
  | .bl a, .bl b => a == b
  | .bl a, .int b => (if a then 1 else 0) == b
  | .int a, .bl b => a == (if b then 1 else 0)
  | .int a, .int b => a == b
  | .str a, .str b => a == b
  | _, _ => false
theorem flat_of {K : PySem.W.Frag} {H : Hp} {v : V} {d : D} (r : Rp K H v d) (h : flatD d = true) : flatV v = true := by
  cases r <;> first | rfl | cases h
theorem eqF_of {K : PySem.W.Frag} {H : Hp} {v u : V} {d e : D} (r : Rp K H v d) (s : Rp K H u e) (h : flatD d = true) (h' : flatD e = true) : eqV v u = eqF d e := by
  cases r <;> first
    | (cases s <;> first
        | rfl
        | (cases h'; done)
        | (rename_i l _ m _
           show (sOf l == sOf m) = (l == m)
           by_cases e : l = m
           · subst e; simp
           · rw [beq_eq_false_iff_ne.mpr e, beq_eq_false_iff_ne.mpr fun z => e (sOf_inj z)]))
    | cases h
theorem flats_of {K : PySem.W.Frag} {H : Hp} : ∀ {vs : List V} {ds : List D}, RpA K H vs ds → ds.all flatD = true → vs.all flatV = true
  | _, _, .nil, _ => rfl
  | _, _, .cons r t, h => by
    rw [List.all_cons, Bool.and_eq_true] at h
    rw [List.all_cons, flat_of r h.1, flats_of t h.2]; rfl
theorem inF_of {K : PySem.W.Frag} {H : Hp} {v : V} {x : D} (s : Rp K H v x) (h : flatD x = true) : ∀ {vs : List V} {ds : List D}, RpA K H vs ds → ds.all flatD = true → inV v vs = ds.any fun y => eqF y x
  | _, _, .nil, _ => rfl
  | w :: vs, d :: ds, .cons r t, k => by
    rw [List.all_cons, Bool.and_eq_true] at k
    show ((w :: vs).any fun y => eqV y v) = _
    rw [List.any_cons, List.any_cons, eqF_of r s k.1 h]
    show (eqF d x || inV v vs) = _
    rw [inF_of s h t k.2]
def keyOf : D → Option Key
  | .int i => some (.inl i)
  | .str l => some (.inr (sOf l))
  | _ => none
theorem keyOf_kV {K : PySem.W.Frag} {H : Hp} {v : V} {d : D} {k : Key} (r : Rp K H v d) (h : keyOf d = some k) : v = kV k := by
  cases r <;> first | (cases h; rfl) | cases h
def valD (kvs : List (Key × D)) (k : Key) : Option D := (kvs.find? fun kv => decide (kv.1 = k)).map (·.2)
def putD (kvs : List (Key × D)) (k : Key) (v : D) : List (Key × D) :=
  if (kvs.any fun kv => decide (kv.1 = k)) = true then kvs.map (fun kv => if kv.1 = k then (kv.1, v) else kv) else kvs ++ [(k, v)]
theorem valD_pos {p : Key × D} {r : List (Key × D)} {k : Key} (e : p.1 = k) : valD (p :: r) k = some p.2 := by simp [valD, List.find?_cons, e]
theorem valD_neg {p : Key × D} {r : List (Key × D)} {k : Key} (e : ¬ p.1 = k) : valD (p :: r) k = valD r k := by simp [valD, List.find?_cons, e]
theorem valD_of {K : PySem.W.Frag} {H : Hp} {k : Key} : ∀ {vs : List (Key × V)} {ds : List (Key × D)}, RpM K H vs ds → (valD ds k = none → valV vs k = none) ∧ ∀ d, valD ds k = some d → ∃ v, valV vs k = some v ∧ Rp K H v d
  | _, _, .nil => ⟨fun _ => rfl, fun d h => by cases h⟩
  | p :: vs, q :: ds, .cons r t => by
    by_cases e : q.1 = k
    · rw [valD_pos e, valV_pos (r.1.trans e)]
      refine ⟨?_, ?_⟩
      · intro h; cases h
      · intro d h; cases h; exact ⟨_, rfl, r.2⟩
    · rw [valD_neg e, valV_neg (fun z => e (r.1.symm.trans z))]
      exact valD_of t
theorem isSome_of {K : PySem.W.Frag} {H : Hp} {k : Key} {vs : List (Key × V)} {ds : List (Key × D)} (r : RpM K H vs ds) : (valV vs k).isSome = (valD ds k).isSome := by
  obtain ⟨h1, h2⟩ := valD_of (k := k) r
  cases e : valD ds k with
  | none => rw [h1 e]; rfl
  | some d => obtain ⟨v, e', _⟩ := h2 d e; rw [e']; rfl
theorem RpM.length {K : PySem.W.Frag} {H : Hp} : ∀ {vs : List (Key × V)} {ds : List (Key × D)}, RpM K H vs ds → vs.length = ds.length
  | _, _, .nil => rfl
  | _, _, .cons _ t => congrArg (· + 1) (RpM.length t)
theorem RpM.any {K : PySem.W.Frag} {H : Hp} {k : Key} : ∀ {vs : List (Key × V)} {ds : List (Key × D)}, RpM K H vs ds → (vs.any fun kv => decide (kv.1 = k)) = ds.any fun kv => decide (kv.1 = k)
  | _, _, .nil => rfl
  | _, _, .cons r t => by rw [List.any_cons, List.any_cons, r.1, RpM.any t]
theorem RpM.putMap {K : PySem.W.Frag} {H : Hp} {k : Key} {v : V} {d : D} (r : Rp K H v d) : ∀ {vs : List (Key × V)} {ds : List (Key × D)}, RpM K H vs ds → RpM K H (vs.map fun kv => if kv.1 = k then (kv.1, v) else kv) (ds.map fun kv => if kv.1 = k then (kv.1, d) else kv)
  | _, _, .nil => .nil
  | p :: vs, q :: ds, .cons s t => by
    rw [List.map_cons, List.map_cons]
    refine .cons ?_ (RpM.putMap r t)
    by_cases e : q.1 = k
    · rw [if_pos (s.1.trans e), if_pos e]; exact ⟨s.1, r⟩
    · rw [if_neg (fun z => e (s.1.symm.trans z)), if_neg e]; exact s
theorem RpM.app {K : PySem.W.Frag} {H : Hp} {k : Key} {v : V} {d : D} (r : Rp K H v d) : ∀ {vs : List (Key × V)} {ds : List (Key × D)}, RpM K H vs ds → RpM K H (vs ++ [(k, v)]) (ds ++ [(k, d)])
  | _, _, .nil => .cons ⟨rfl, r⟩ .nil
  | _, _, .cons s t => .cons s (RpM.app r t)
theorem RpM.put {K : PySem.W.Frag} {H : Hp} {k : Key} {v : V} {d : D} {vs : List (Key × V)} {ds : List (Key × D)} (m : RpM K H vs ds) (r : Rp K H v d) : RpM K H (putK vs k v) (putD ds k d) := by
  unfold putK putD
  rw [m.any]
  by_cases e : (ds.any fun kv => decide (kv.1 = k)) = true
  · rw [if_pos e, if_pos e]; exact m.putMap r
  · rw [if_neg e, if_neg e]; exact m.app r

def gIn (neg : Bool) : D → Sq → Option D
  | .str [c], .s l => some (.bl (if neg then !decide (c ∈ l) else decide (c ∈ l)))
  | x, .l ys => if flatD x = true ∧ ys.all flatD = true then some (.bl (if neg then !(ys.any fun y => eqF y x) else ys.any fun y => eqF y x))
    else if shD x = true ∧ shD (.lst ys) = true then some (.bl (if neg then !(ys.any fun y => eqD y x) else ys.any fun y => eqD y x)) else none
  | x, .t ys => if flatD x = true ∧ ys.all flatD = true then some (.bl (if neg then !(ys.any fun y => eqF y x) else ys.any fun y => eqF y x)) else none
  | x, .m kvs => (keyOf x).map fun k => .bl (if neg then !(valD kvs k).isSome else (valD kvs k).isSome)
  | _, _ => none
def rInM : R2 := fun x y H Q => ∃ a k kvs, x = kV k ∧ y = .ref a ∧ H a = some (.dK kvs) ∧ Q (.bl (valV kvs k).isSome) H
def rNiM : R2 := fun x y H Q => ∃ a k kvs, x = kV k ∧ y = .ref a ∧ H a = some (.dK kvs) ∧ Q (.bl (!(valV kvs k).isSome)) H
theorem op_inM {X : Cx} (hu : X.A.units + 1 < cLine) : OpR X (compareOp .In) rInM := by
  intro pins s σ H x y v u Q I rx ry h
  obtain ⟨a, k, kvs, rfl, rfl, e, q⟩ := h
  cases ry
  exact d_in hu I (DGet.k (k := k) e) rx fun s' I' => ⟨.bl _, H, I', rfl, q⟩
theorem op_niM {X : Cx} (hu : X.A.units + 1 < cLine) : OpR X (compareOp .NotIn) rNiM := by
  intro pins s σ H x y v u Q I rx ry h
  obtain ⟨a, k, kvs, rfl, rfl, e, q⟩ := h
  cases ry
  exact d_notIn hu I (DGet.k (k := k) e) rx fun s' I' => ⟨.bl _, H, I', rfl, q⟩
theorem dpA_to {K : PySem.W.Frag} {H : Hp} {vs : List V} {ds : List D} (r : RpA K H vs ds) : DpAll K H vs (toPyA ds) := dpA_of r
theorem any_toPy (x : D) : ∀ ds : List D, ((toPyA ds).any fun z => PyData.eqv z (toPy x)) = ds.any fun y => eqD y x
  | [] => rfl
  | d :: ds => by
    show ((toPy d :: toPyA ds).any _) = _
    rw [List.any_cons, List.any_cons, any_toPy x ds]; rfl
theorem p_in : Op2S Γ (compareOp .In) (gIn false) := by
  refine ⟨fun X F => ⟨_, (OpR.or' op_in_sign (OpR.or' op_in_seq (OpR.or' (op_inD (by have := F.un; omega)) (op_inM (by have := F.un; omega))))), fun x s d hd v u H Q rx ry k => ?_⟩⟩
  unfold gIn at hd
  split at hd
  · rename_i c l
    cases hd
    rw [rx.str_of.1, ry.1]
    refine .inl ⟨c, _, rfl, rfl, ?_⟩
    rw [sOf_list]
    exact k _ H (.refl _) (.bl _)
  · rename_i ys hn
    obtain ⟨p, vs, rfl, hq, hr⟩ := ry
    split at hd
    · rename_i hf
      cases hd
      refine .inr (.inl ⟨p, vs, rfl, .inl hq, flat_of rx hf.1, flats_of hr hf.2, ?_⟩)
      rw [if_neg (by decide), inF_of rx hf.1 hr hf.2]
      exact k _ H (.refl _) (.bl _)
    · split at hd
      · rename_i hs
        cases hd
        refine .inr (.inr (.inl ⟨_, _, dp_of rx, .lst hq (dpA_of hr), shD_ok hs.1, shD_ok hs.2, ?_⟩))
        rw [any_toPy]
        exact k _ H (.refl _) (.bl _)
      · cases hd
  · rename_i ys hn
    obtain ⟨p, vs, rfl, hq, hr⟩ := ry
    split at hd
    · rename_i hf
      cases hd
      refine .inr (.inl ⟨p, vs, rfl, .inr hq, flat_of rx hf.1, flats_of hr hf.2, ?_⟩)
      rw [if_neg (by decide), inF_of rx hf.1 hr hf.2]
      exact k _ H (.refl _) (.bl _)
    · cases hd
  · rename_i kvs hn
    obtain ⟨p, vs, rfl, hq, hr⟩ := ry
    obtain ⟨key, hk, hd⟩ := Option.map_eq_some_iff.mp hd
    cases hd
    refine .inr (.inr (.inr ⟨p, key, vs, keyOf_kV rx hk, rfl, hq, ?_⟩))
    rw [isSome_of hr]
    exact k _ H (.refl _) (.bl _)
  · cases hd
theorem p_ni : Op2S Γ (compareOp .NotIn) (gIn true) := by
  refine ⟨fun X F => ⟨_, (OpR.or' op_notIn_sign (OpR.or' op_notIn_seq (OpR.or' (op_notInD (by have := F.un; omega)) (op_niM (by have := F.un; omega))))), fun x s d hd v u H Q rx ry k => ?_⟩⟩
  unfold gIn at hd
  split at hd
  · rename_i c l
    cases hd
    rw [rx.str_of.1, ry.1]
    refine .inl ⟨c, _, rfl, rfl, ?_⟩
    rw [sOf_list]
    exact k _ H (.refl _) (.bl _)
  · rename_i ys hn
    obtain ⟨p, vs, rfl, hq, hr⟩ := ry
    split at hd
    · rename_i hf
      cases hd
      refine .inr (.inl ⟨p, vs, rfl, .inl hq, flat_of rx hf.1, flats_of hr hf.2, ?_⟩)
      rw [if_pos rfl, inF_of rx hf.1 hr hf.2]
      exact k _ H (.refl _) (.bl _)
    · split at hd
      · rename_i hs
        cases hd
        refine .inr (.inr (.inl ⟨_, _, dp_of rx, .lst hq (dpA_of hr), shD_ok hs.1, shD_ok hs.2, ?_⟩))
        rw [any_toPy]
        exact k _ H (.refl _) (.bl _)
      · cases hd
  · rename_i ys hn
    obtain ⟨p, vs, rfl, hq, hr⟩ := ry
    split at hd
    · rename_i hf
      cases hd
      refine .inr (.inl ⟨p, vs, rfl, .inr hq, flat_of rx hf.1, flats_of hr hf.2, ?_⟩)
      rw [if_pos rfl, inF_of rx hf.1 hr hf.2]
      exact k _ H (.refl _) (.bl _)
    · cases hd
  · rename_i kvs hn
    obtain ⟨p, vs, rfl, hq, hr⟩ := ry
    obtain ⟨key, hk, hd⟩ := Option.map_eq_some_iff.mp hd
    cases hd
    refine .inr (.inr (.inr ⟨p, key, vs, keyOf_kV rx hk, rfl, hq, ?_⟩))
    rw [isSome_of hr]
    exact k _ H (.refl _) (.bl _)
  · cases hd
end
end DD

end
section
set_option Elab.async false
set_option linter.all false
set_option maxRecDepth 100000
set_option maxHeartbeats 1000000
/-! D4c: isinstance, methods of texts, subscripts, slices, displays. -/
namespace DD
open PySem PySem.Spec PyProof.Rows L2
open TL (joinL join_eq tl_join tl)

/-! ### isinstance -/
def tyD : D → String
  | .non => "NoneType"
  | .bl _ => "bool"
  | .int _ => "int"
  | .str _ => "str"
  | .lst _ => "list"
  | .tup _ => "tuple"
  | .scr _ => "list"
def isiS (T : String) : D → Bool
  | .non => false
  | .bl _ => T == "bool" || T == "int"
  | .int _ => T == "int"
  | .str _ => T == "str"
  | .lst _ => T == "list"
  | .tup _ => T == "tuple"
  | .scr _ => T == "list"
def clsNames : List String := ["str", "int", "bool", "list", "tuple"]
def isiN (T a : String) : Bool := if a = "NoneType" then false else if a = "bool" then T == "bool" || T == "int" else T == a
theorem kit_all : ∀ a ∈ ["NoneType", "bool", "int", "str", "list", "tuple"], ∀ T ∈ clsNames, kitB a T = some (isiN T a) := by decide +kernel
theorem isiN_eq (T : String) (d : D) : isiN T (tyD d) = isiS T d := by
  cases d <;> first | rfl | (unfold isiN tyD isiS; simp)
theorem kit_D {T : String} (hT : T ∈ clsNames) (d : D) : kitB (tyD d) T = some (isiS T d) := by
  rw [← isiN_eq]
  refine kit_all _ ?_ T hT
  cases d <;> simp [tyD]
theorem tyX_of {K : PySem.W.Frag} {H : Hp} {v : V} {d : D} (r : Rp K H v d) : TyX K H v (.type (tyD d)) := by
  cases r with
  | non => exact .base .non
  | bl b => exact .base (.bl b)
  | int i => exact .base (.int i)
  | str h => exact .base (.str _)
  | lst h _ => obtain ⟨o, h⟩ := h; exact .base (.frz h)
  | tup h _ =>
    rcases h with (h | ⟨o, h⟩) | ⟨o, its, n, h, c, _⟩
    · exact .base (.tup h)
    · exact .fTuple h
    · exact .kTuple h c
  | scr h =>
    rcases h with ⟨o, h⟩ | ⟨o, its, n, h, c, _⟩
    · exact .base (.frz h)
    · exact .kList h c
def eIsi (Ts : List String) (ea : EV) : EV := fun L => (ea L).map fun p => (.bl (Ts.any fun T => isiS T p.1), p.2)
section
variable {Γ : Gm} {pos p1 p2 p3 p4 p5 : Pos} {a b c e e2 : Expr} {ea eb ec ev : EV} {es : ES}
theorem kitAny_D {K : PySem.W.Frag} (d : D) : ∀ Ts : List String, (∀ T ∈ Ts, T ∈ clsNames) → PySem.W.kitAny K (.type (tyD d)) (Ts.map Value.type) = some (Ts.any fun T => isiS T d)
  | [], _ => rfl
  | T :: Ts, h => by
    rw [List.map_cons, List.any_cons]
    refine kitAny_cons (kit_ty (kit_D (h T List.mem_cons_self) d)) (fun e => ?_) fun e => ?_
    · rw [e]; exact kitAny_D d Ts fun U hU => h U (List.mem_cons_of_mem _ hU)
    · rw [e]; rfl
/-- the names of built-in types -/
def TyNm (Γ : Gm) (x : Str) (T : String) : Prop := Γ.nm.lookup x = some .globalImplicit ∧ x ∈ Γ.bi ∧ bootBuiltins x = some (.type T) ∧ x ≠ "__name__" ∧ (x == ("__debug__" : Str)) = false ∧ T ∈ clsNames
theorem TyNm.pe {X : Cx} (F : Fits Γ X) {x : Str} {T : String} (h : TyNm Γ x T) : PE X (.Name x pos) (tC (.ty T)) := by
  obtain ⟨h1, h2, h3, h4, h5, _⟩ := h
  exact pe_bltn (F.gl x h1) (F.bi x h2) h3 (show RelV (.ty T) (.type T) from rfl) h4 h5
theorem je_isi {y x : Str} {T : String} (ha : JE Γ e ea) (hT : TyNm Γ x T) (hv : bootBuiltins y = some (.builtin "isinstance")) (hg : Γ.nm.lookup y = some .globalImplicit) (hb : y ∈ Γ.bi) (hn : y ≠ "__name__") (hdb : (y == ("__debug__" : Str)) = false) :
    JE Γ (.Call (.Name y p1) [e, .Name x p2] [] pos) (eIsi [T] ea) := by
  refine ⟨fun _ _ => rfl, fun X F => ?_⟩
  refine pe_mono (pe_callB call_isi (F.gl y hg) (F.bi y hb) hv (pa_cons (ha.run X F) (pa_cons (hT.pe F) pa_nil rfl) (ha.ns _ _)) hn hdb (ha.ns _ _) rfl) fun σ H Q h => ?_
  obtain ⟨B, L, d, L', R, e, q⟩ := h
  obtain ⟨⟨d', L1⟩, h1, h2⟩ := Option.map_eq_some_iff.mp e
  cases h2
  refine ⟨B, L, d', L1, R, h1, fun v H1 R1 s1 l1 r1 => ?_⟩
  refine ⟨v, .ty T, _, .type T, isiS T d', rfl, .ty T, tyX_of r1, kit_ty (kit_D hT.2.2.2.2.2 d'), ?_⟩
  have := q (.bl (([T]).any fun T => isiS T d')) H1 R1 s1 l1 (.bl _)
  rw [List.any_cons, List.any_nil, Bool.or_false] at this
  exact this
theorem je_isi2 {y x x' : Str} {T T' : String} {k} (ha : JE Γ e ea) (hT : TyNm Γ x T) (hT' : TyNm Γ x' T') (hv : bootBuiltins y = some (.builtin "isinstance")) (hg : Γ.nm.lookup y = some .globalImplicit) (hb : y ∈ Γ.bi) (hn : y ≠ "__name__") (hdb : (y == ("__debug__" : Str)) = false) :
    JE Γ (.Call (.Name y p1) [e, .Tuple [.Name x p2, .Name x' p3] k p4] [] pos) (eIsi [T, T'] ea) := by
  refine ⟨fun _ _ => rfl, fun X F => ?_⟩
  refine pe_mono (pe_callB call_isiT (F.gl y hg) (F.bi y hb) hv (pa_cons (ha.run X F) (pa_cons (pe_tup (pa_cons (hT.pe F) (pa_cons (hT'.pe F) pa_nil rfl) rfl)) pa_nil rfl) (ha.ns _ _)) hn hdb (ha.ns _ _) rfl) fun σ H Q h => ?_
  obtain ⟨B, L, d, L', R, e, q⟩ := h
  obtain ⟨⟨d', L1⟩, h1, h2⟩ := Option.map_eq_some_iff.mp e
  cases h2
  refine ⟨B, L, d', L1, R, h1, fun v H1 R1 s1 l1 r1 => ⟨by show 2 ≤ sizeLine; decide, fun p hp => ?_⟩⟩
  have sm : Same H1 (upd H1 p (.tup [.ty T, .ty T'])) := fun b o hb => by
    rw [upd_ne]; exact hb
    rintro rfl; rw [hp] at hb; cases hb
  refine ⟨v, p, [.ty T, .ty T'], _, [.type T, .type T'], ([T, T']).any fun T => isiS T d', rfl, upd_same, .cons (.ty T) (.cons (.ty T') .nil), tyX_of (r1.mo (Mo.of sm)), kitAny_D d' [T, T'] (fun U hU => ?_), q _ _ (R1.grow sm) (s1.trans l1 (.of_same sm)) l1 (.bl _)⟩
  rcases List.mem_cons.mp hU with rfl | hU
  · exact hT.2.2.2.2.2
  · rcases List.mem_cons.mp hU with rfl | hU
    · exact hT'.2.2.2.2.2
    · cases hU

/-! ### methods of a text, one argument -/
structure M1 (Γ : Gm) (id : String) (g : List Nat → Sq → Option D) : Prop where
  run : ∀ X, Fits Γ X → ∃ r : V → List V → Hp → VK → Prop, MtR X id r ∧ ∀ l s d, g l s = some d → ∀ u H Q, l.length ≤ sizeLine → RpS X.K H u s → (∀ w H', Same H H' → Rp X.K H' w d → Q w H') → r (.str (sOf l)) [u] H Q
def eM1 (g : List Nat → Sq → Option D) (ea : EV) (es : ES) : EV := fun L => (ea L).bind fun p => (es p.2).bind fun q => match p.1 with
  | .str l => (g l q.1).map fun d => (d, q.2)
  | _ => none
theorem je_m1 {o : Expr} {id : String} {name : Str} {apos : Pos} {g : List Nat → Sq → Option D} (hM : M1 Γ id g) (slot : PySem.Slot "str" name id) (ty : typeOf (.builtin id) = pure (.type "method_descriptor")) (ha : JE Γ o ea) (he : JS Γ e es)
    (hbase : ∀ env : PySem.Env, attributeBase o name env (eval o env) = eval o env) (hline : (apos.endLine == pos.line) = true) : JE Γ (.Call (.Attribute o name apos) [e] [] pos) (eM1 g ea es) := by
  refine ⟨fun _ _ => rfl, fun X F => ?_⟩
  obtain ⟨r, h1, h2⟩ := hM.run X F
  refine pe_mono (pe_m1 slot ty h1 (ha.run X F) (he.run X F) (he.ns _ _) (hbase _) hline) fun σ H Q h => ?_
  obtain ⟨B, L, d, L', R, e, q⟩ := h
  obtain ⟨⟨x, L1⟩, k1, e⟩ := Option.bind_eq_some_iff.mp e
  obtain ⟨⟨s, L2⟩, k2, e⟩ := Option.bind_eq_some_iff.mp e
  refine ⟨B, L, x, L1, R, k1, fun v H1 R1 s1 l1 r1 => ?_⟩
  cases x with
  | str l =>
    obtain ⟨d', k3, e⟩ := Option.map_eq_some_iff.mp e
    cases e
    obtain ⟨rfl, hl⟩ := r1.str_of
    refine ⟨⟨_, rfl⟩, B, L1, s, _, R1, k2, fun u H2 R2 s2 l2 r2 => h2 l s d k3 u H2 Q hl r2 fun w H3 sm r3 => q w H3 (R2.grow sm) ((s1.trans l1 s2).trans (l1.trans l2) (.of_same sm)) (l1.trans l2) r3⟩
  | _ => cases e
def gFind : List Nat → Sq → Option D
  | l, .s [c] => some (.int (match fst1 c l with | some i => (i : Int) | none => -1))
  | _, _ => none
def gRfind : List Nat → Sq → Option D
  | l, .s [c] => some (.int (match lst1 c l with | some i => (i : Int) | none => -1))
  | _, _ => none
def gIndex : List Nat → Sq → Option D
  | l, .s [c] => (fst1 c l).map fun (i : Nat) => D.int (i : Int)
  | _, _ => none
def gCount : List Nat → Sq → Option D
  | l, .s [c] => some (.int ((l.count c : Nat) : Int))
  | _, _ => none
def gJoin : List Nat → Sq → Option D
  | l, .l xs => (strsOf xs).bind fun ls => if (ls.map (·.length)).sum + ls.length * l.length ≤ 16777216 then some (.str (joinL l ls)) else none
  | l, .t xs => (strsOf xs).bind fun ls => if (ls.map (·.length)).sum + ls.length * l.length ≤ 16777216 then some (.str (joinL l ls)) else none
  | _, _ => none
theorem m_find : M1 Γ "str.find" gFind := by
  refine ⟨fun X F => ⟨_, mt_find, fun l s d hd u H Q hl r k => ?_⟩⟩
  unfold gFind at hd
  split at hd
  · rename_i c
    cases hd
    rw [r.1]
    refine ⟨_, _, rfl, rfl, ?_⟩
    have e : Txt.find (sOf l) (sOf [c]) = (match fst1 c l with | some i => (i : Int) | none => -1) := by
      unfold Txt.find
      rw [occ_one]
      cases fst1 c l <;> rfl
    rw [e]
    exact k _ H (.refl _) (.int _)
  · cases hd
theorem m_rfind : M1 Γ "str.rfind" gRfind := by
  refine ⟨fun X F => ⟨_, mt_rfind, fun l s d hd u H Q hl r k => ?_⟩⟩
  unfold gRfind at hd
  split at hd
  · rename_i c
    cases hd
    rw [r.1]
    refine ⟨_, _, rfl, rfl, ?_⟩
    have e : Txt.rfind (sOf l) (sOf [c]) = (match lst1 c l with | some i => (i : Int) | none => -1) := by
      unfold Txt.rfind
      rw [last_one]
      cases lst1 c l <;> rfl
    rw [e]
    exact k _ H (.refl _) (.int _)
  · cases hd
theorem m_count : M1 Γ "str.count" gCount := by
  refine ⟨fun X F => ⟨_, mt_count, fun l s d hd u H Q hl r k => ?_⟩⟩
  unfold gCount at hd
  split at hd
  · rename_i c
    cases hd
    rw [r.1]
    refine ⟨_, _, rfl, rfl, ?_⟩
    have e : Txt.count (sOf l) (sOf [c]) = ((l.count c : Nat) : Int) := by
      have z := PyProof.Rows.count_is (sOf l) c
      rw [show sOf [c] = (⟨#[c]⟩ : Str) from rfl, z]
      show PyProof.Rows.cnt c (sOf l).cps.toList = _
      rw [cnt_count, sOf_list]
    rw [e]
    exact k _ H (.refl _) (.int _)
  · cases hd
def rIndex1 : V → List V → Hp → VK → Prop := fun x xs H Q => ∃ (a b : Str) (k : Nat), x = .str a ∧ xs = [.str b] ∧ Txt.index0 a b = some k ∧ Q (.int (k : Nat)) H
theorem mt_index1 {X : Cx} : MtR X "str.index" rIndex1 := by
  intro pins s σ H x xs v us Q I rx rs h
  obtain ⟨a, b, k, rfl, rfl, hk, w⟩ := h
  obtain ⟨t, rfl⟩ := rx
  cases rs with
  | cons r1 rs =>
    cases rs
    obtain ⟨u, rfl⟩ := r1
    cases q : Builtin.Str.occurrences a b 0 a.length 1 with
    | nil => unfold Txt.index0 at hk; rw [q] at hk; cases hk
    | cons j rest =>
      have : j = k := by unfold Txt.index0 at hk; rw [q] at hk; exact Option.some.inj hk
      subst this
      exact call_gives PySem.F.slot_str_index (typeIs_str _ _ _) PySem.F.entry_str_index (PySem.F.args_str_index_2 _ _) (gives_str_index a b t u j rest q) ⟨.int (j : Nat), H, I.tok _, ⟨_, rfl⟩, w⟩
theorem m_index : M1 Γ "str.index" gIndex := by
  refine ⟨fun X F => ⟨_, mt_index1, fun l s d hd u H Q hl r k => ?_⟩⟩
  unfold gIndex at hd
  split at hd
  · rename_i c
    obtain ⟨i, hi, hd⟩ := Option.map_eq_some_iff.mp hd
    cases hd
    rw [r.1]
    refine ⟨_, _, i, rfl, rfl, ?_, k _ H (.refl _) (.int _)⟩
    show Txt.index0 (sOf l) (sOf [c]) = some i
    unfold Txt.index0
    rw [occ_one, hi]; rfl
  · cases hd
theorem tl_map_sOf (ls : List (List Nat)) : (ls.map sOf).map tl = ls := by
  rw [List.map_map]
  induction ls with
  | nil => rfl
  | cons l r ih => rw [List.map_cons, ih]; exact congrArg (· :: r) (sOf_list l)
theorem joinL_len (S : List Nat) : ∀ ls : List (List Nat), (joinL S ls).length ≤ (ls.map (·.length)).sum + ls.length * S.length
  | [] => Nat.zero_le _
  | [p] => by simp [joinL]
  | p :: q :: r => by
    have := joinL_len S (q :: r)
    unfold joinL
    simp only [List.length_append, List.map_cons, List.sum_cons, List.length_cons, Nat.add_mul] at this ⊢
    omega
theorem m_join : M1 Γ "str.join" gJoin := by
  refine ⟨fun X F => ⟨_, mt_join, fun l s d hd u H Q hl r k => ?_⟩⟩
  have core : ∀ {p : Addr} {vs : List V} {xs : List D}, u = .ref p → (SqL X.K H p vs ∨ SqT X.K H p vs) → RpA X.K H vs xs → ((strsOf xs).bind fun ls => if (ls.map (·.length)).sum + ls.length * l.length ≤ 16777216 then some (D.str (joinL l ls)) else none) = some d →
      ∃ a p, ∃ ys : List Str, V.str (sOf l) = .str a ∧ [u] = [.ref p] ∧ (SqL X.K H p (ys.map V.str) ∨ SqT X.K H p (ys.map V.str)) ∧ (ys.map (·.length)).sum + ys.length * a.length ≤ 16777216 ∧ Q (.str (Txt.join a ys)) H := fun {p vs xs} eu hq hr h => by
    obtain ⟨ls, h1, h2⟩ := Option.bind_eq_some_iff.mp h
    split at h2
    · rename_i hz
      cases h2
      have := strsOf_some h1
      subst this
      obtain ⟨rfl, hs⟩ := hr.strs
      have e1 : ((ls.map sOf).map (·.length)).sum = (ls.map (·.length)).sum := by
        rw [List.map_map]
        exact congrArg List.sum (List.map_congr_left fun m _ => sOf_len m)
      refine ⟨_, p, ls.map sOf, rfl, by rw [eu], hq, ?_, ?_⟩
      · rw [e1, List.length_map, sOf_len]; exact hz
      · have e2 : Txt.join (sOf l) (ls.map sOf) = sOf (joinL l ls) := by
          rw [join_eq, ← sOf_eta (Str.join _ _)]
          congr 1
          show tl _ = _
          rw [tl_join, tl_map_sOf]
          show joinL (sOf l).cps.toList ls = _
          rw [sOf_list]
        rw [e2]
        have := joinL_len l ls
        exact k _ H (.refl _) (.str (Nat.le_trans this (Nat.le_trans hz (by decide))))
    · cases h2
  unfold gJoin at hd
  split at hd
  · obtain ⟨p, vs, e, hq, hr⟩ := r
    exact core e (.inl hq) hr hd
  · obtain ⟨p, vs, e, hq, hr⟩ := r
    exact core e (.inr hq) hr hd
  · cases hd
end
end DD

end
section
set_option Elab.async false
set_option linter.all false
set_option maxRecDepth 100000
set_option maxHeartbeats 1000000
/-! D4d: subscripts, slices, displays. -/
namespace DD
open PySem PySem.Spec PyProof.Rows L2
section
variable {Γ : Gm} {pos p1 p2 p3 p4 p5 : Pos} {a b c e e2 : Expr} {ea eb ec ev : EV} {es : ES}

/-! ### subscripts -/
def gIxS : Sq → D → Option D
  | .l xs, .int i => atI xs i
  | .t xs, .int i => atI xs i
  | .s l, .int i => (atI l i).map fun c => D.str [c]
  | .m kvs, k => (keyOf k).bind fun k => valD kvs k
  | .v (.scr ns), .int i => (atI ns i).map D.int
  | _, _ => none
def sqD : D → Sq
  | .lst xs => .l xs
  | .tup xs => .t xs
  | .str l => .s l
  | d => .v d
theorem Rp.sqD {K : PySem.W.Frag} {H : Hp} {v : V} {d : D} (r : Rp K H v d) : RpS K H v (sqD d) := by
  cases r with
  | lst h1 h2 => exact ⟨_, _, rfl, h1.seq, h2⟩
  | tup h1 h2 => exact ⟨_, _, rfl, h1, h2⟩
  | str h1 => exact ⟨rfl, h1⟩
  | non => exact Rp.non
  | bl b => exact Rp.bl b
  | int i => exact Rp.int i
  | scr h => exact Rp.scr h
def gIxD (x k : D) : Option D := gIxS (sqD x) k
theorem RpA.atI {K : PySem.W.Frag} {H : Hp} {vs : List V} {ds : List D} {i : Int} {d : D} (r : RpA K H vs ds) (h : atI ds i = some d) : ∃ v, atI vs i = some v ∧ Rp K H v d := by
  unfold L2.atI at h ⊢
  rw [r.length]
  obtain ⟨j, h1, h2⟩ := Option.bind_eq_some_iff.mp h
  obtain ⟨v, h3, h4⟩ := r.get h2
  exact ⟨v, by rw [h1]; exact h3, h4⟩
theorem atI_map {α β : Type} (f : α → β) (xs : List α) (i : Int) : atI (xs.map f) i = (atI xs i).map f := by
  unfold L2.atI
  rw [List.length_map]
  cases ixN xs.length i with
  | none => rfl
  | some j => show (xs.map f)[j]? = (xs[j]?).map f; rw [List.getElem?_map]
def rIxM : R2 := fun x y H Q => ∃ a k kvs v, x = .ref a ∧ y = kV k ∧ H a = some (.dK kvs) ∧ valV kvs k = some v ∧ Q v H
theorem ix_M {X : Cx} (hu : X.A.units + 1 < cLine) : IxR X rIxM := by
  intro value slice pins s σ H x y v u Q I rx ry h hs
  obtain ⟨a, k, kvs, z, rfl, rfl, he, hv, q⟩ := h
  cases rx
  have g : DGet H a (kV k) (some z) := hv ▸ DGet.k (k := k) he
  exact tail_any (dict_typeIs I g) PySem.F.slot_dict_getitem.lookup (d_getItem hu I g ry fun w' s' I' rw' => ⟨z, H, I', rw', q⟩) hs
theorem ix_any {X : Cx} (hu : X.A.units + 1 < cLine) : IxR X (fun x y H Q => rIx X.K x y H Q ∨ rIxM x y H Q) := ix_seq.or (ix_M hu)
theorem ix_of {K : PySem.W.Frag} {s : Sq} {k d : D} (hd : gIxS s k = some d) {v u : V} {H : Hp} {Q : VK} (rx : RpS K H v s) (ry : Rp K H u k) (q : ∀ w, Rp K H w d → Q w H) : rIx K v u H Q ∨ rIxM v u H Q := by
  unfold gIxS at hd
  split at hd
  · rename_i xs i
    obtain ⟨p, vs, rfl, hq, hr⟩ := rx
    obtain ⟨w, h1, h2⟩ := hr.atI hd
    rw [ry.int_of]
    exact .inl (.inl ⟨p, vs, i, w, rfl, rfl, hq, h1, q w h2⟩)
  · rename_i xs i
    obtain ⟨p, vs, rfl, hq, hr⟩ := rx
    obtain ⟨w, h1, h2⟩ := hr.atI hd
    rw [ry.int_of]
    exact .inl (.inr (.inl ⟨p, vs, i, w, rfl, rfl, hq, h1, q w h2⟩))
  · rename_i l i
    obtain ⟨c, h1, h2⟩ := Option.map_eq_some_iff.mp hd
    cases h2
    obtain ⟨rfl, hl⟩ := rx
    rw [ry.int_of]
    exact .inl (.inr (.inr ⟨sOf l, i, c, rfl, rfl, by rw [sOf_len]; exact hl, by rw [sOf_list]; exact h1, q (.str (sOf [c])) (.str (by show 1 ≤ sizeLine; decide))⟩))
  · rename_i kvs k
    obtain ⟨key, h1, h2⟩ := Option.bind_eq_some_iff.mp hd
    obtain ⟨p, vs, rfl, hq, hr⟩ := rx
    obtain ⟨w, h3, h4⟩ := (valD_of (k := key) hr).2 d h2
    exact .inr ⟨p, key, vs, w, rfl, keyOf_kV ry h1, hq, h3, q w h4⟩
  · rename_i ns i
    obtain ⟨n, h1, h2⟩ := Option.map_eq_some_iff.mp hd
    cases h2
    cases (show Rp K H v (.scr ns) from rx) with
    | scr h =>
      rw [ry.int_of]
      exact .inl (.inl ⟨_, _, i, .int n, rfl, rfl, h.seq, by rw [atI_map, h1]; rfl, q _ (.int n)⟩)
  · cases hd
theorem je_ix (ha : JE Γ a ea) (hb : JE Γ b eb) (hs : PlainIx b) : JE Γ (.Subscript a b pos) (eOp gIxD ea eb) := by
  refine ⟨fun _ _ => rfl, fun X F => pe_mono (pe_ix (ix_any (by have := F.un; omega)) (ha.run X F) (hb.run X F) hs) (tOp_of fun x y d hd v u H Q rx ry k => ?_)⟩
  exact ix_of hd rx.sqD ry fun w r => k w H (.refl _) r
/-- a name's own thing, as it stands once the rest is reckoned -/
def rdS (L : Env) (i : Nat) : Option Sq := (sqL i L).map (·.1)
theorem rdS_of {K : PySem.W.Frag} {B : Bs} {L : Env} {σ : St} {H : Hp} {i : Nat} {s : Sq} (R : Rep K B L σ H) (h : rdS L i = some s) : ∃ v, σ[i]? = some (some v) ∧ RpS K H v s := by
  have main : ∀ t, L[i]? = some t → ∃ o, σ[i]? = some o ∧ SlotOk K B H i o t := fun t ht => by
    have hi : i < σ.length := by rw [← R.len]; exact (List.getElem?_eq_some_iff.mp ht).1
    exact ⟨_, List.getElem?_eq_getElem hi, R.slot i _ _ ht (List.getElem?_eq_getElem hi)⟩
  obtain ⟨⟨s', L'⟩, e, h2⟩ := Option.map_eq_some_iff.mp h
  cases h2
  unfold sqL at e
  split at e <;> first
    | (cases e; done)
    | skip
  all_goals (rename_i ht; cases e)
  · obtain ⟨o, h1, a, rfl, _, vs, h2, h3⟩ := main _ ht
    exact ⟨_, h1, a, vs, rfl, .of h2, h3⟩
  · obtain ⟨o, h1, a, rfl, _, vs, h2, h3⟩ := main _ ht
    exact ⟨_, h1, a, vs, rfl, .of h2, h3⟩
  · obtain ⟨o, h1, a, rfl, _, vs, h2, h3⟩ := main _ ht
    exact ⟨_, h1, a, vs, rfl, h2, h3⟩
  · obtain ⟨o, h1, a, rfl, _, vs, h2, h3⟩ := main _ ht
    exact ⟨_, h1, a, vs, rfl, h2, h3⟩
  · obtain ⟨o, h1, v, rfl, r⟩ := main _ ht
    exact ⟨_, h1, r.sq rfl⟩
  · obtain ⟨o, h1, v, rfl, r⟩ := main _ ht
    exact ⟨_, h1, r.sq rfl⟩
  · obtain ⟨o, h1, v, rfl, r⟩ := main _ ht
    exact ⟨_, h1, r.sq rfl⟩
  · obtain ⟨o, h1, v, rfl, r⟩ := main _ ht
    exact ⟨_, h1, r⟩
theorem rdS_at {K : PySem.W.Frag} {B : Bs} {L : Env} {σ : St} {H : Hp} {i : Nat} {s : Sq} {v : V} (R : Rep K B L σ H) (h : rdS L i = some s) (e : σ[i]? = some (some v)) : RpS K H v s := by
  obtain ⟨w, h1, h2⟩ := rdS_of R h
  rw [e] at h1; cases h1; exact h2
def eIxN (i : Nat) (eb : EV) : EV := fun L => (rdS L i).bind fun _ => (eb L).bind fun q => (rdS q.2 i).bind fun s => (gIxS s q.1).map fun d => (d, q.2)
theorem je_ixN (i : Nat) {x : Str} (hN : Γ.N[i]? = some x) (hv : visS Γ.sc x = true) (hd : (x == ("__debug__" : Str)) = false) (hcd : (x == ("__classdict__" : Str)) = false) (hb : JE Γ b eb) (hs : PlainIx b) : JE Γ (.Subscript (.Name x p1) b pos) (eIxN i eb) := by
  refine ⟨fun _ _ => rfl, fun X F => pe_mono (pe_ix (ix_any (by have := F.un; omega)) (pe_var (i := i) (by rw [F.N]; exact hN) (F.visB hv) hd hcd) (hb.run X F) hs) fun σ H Q h => ?_⟩
  obtain ⟨B, L, d, L', R, e, q⟩ := h
  obtain ⟨s0, k0, e⟩ := Option.bind_eq_some_iff.mp e
  obtain ⟨⟨y, L1⟩, k1, e⟩ := Option.bind_eq_some_iff.mp e
  obtain ⟨s, k2, e⟩ := Option.bind_eq_some_iff.mp e
  obtain ⟨d', k3, e⟩ := Option.map_eq_some_iff.mp e
  cases e
  obtain ⟨v, hv, _⟩ := rdS_of R k0
  refine ⟨v, hv, B, L, y, _, R, k1, fun u H1 R1 s1 l1 r1 => ?_⟩
  exact ix_of k3 (rdS_at R1 k2 hv) r1 fun w r => q w H1 R1 s1 l1 r

/-! ### slices -/
def tP (K : PySem.W.Frag) (ep : Env → Option (Option Int × Env)) : TO := fun σ H Q => ∃ B L o L', Rep K B L σ H ∧ ep L = some (o, L') ∧ ∀ H', Rep K B L' σ H' → Stp L σ H H' → LSub L L' → Q o H'
structure JP (Γ : Gm) (e : Option Expr) (ep : Env → Option (Option Int × Env)) : Prop where
  run : ∀ X, Fits Γ X → PO X e (tP X.K ep)
theorem po_mono {X : Cx} {e : Option Expr} {t t' : TO} (h : PO X e t) (m : ∀ σ H Q, t' σ H Q → t σ H Q) : PO X e t' := ⟨fun pins s σ H Q I q => h.run pins s σ H Q I (m σ H Q q)⟩
def pNo : Env → Option (Option Int × Env) := fun L => some (none, L)
def pOf (ev : EV) : Env → Option (Option Int × Env) := fun L => match ev L with
  | some (.int i, L') => some (some i, L')
  | _ => none
theorem jp_no : JP Γ none pNo := ⟨fun X F => po_mono po_none fun σ H Q h => by
  obtain ⟨B, L, d, L', R, e, q⟩ := h
  cases e
  exact q H R (.refl _ _ _) (.refl _)⟩
theorem jp_of (h : JE Γ e ev) : JP Γ (some e) (pOf ev) := ⟨fun X F => po_mono (po_some (h.run X F)) fun σ H Q h => by
  obtain ⟨B, L, d, L', R, e, q⟩ := h
  unfold pOf at e
  split at e
  · rename_i i L1 e1
    cases e
    exact ⟨B, L, _, _, R, e1, fun v H' R' s l r => ⟨i, r.int_of, q H' R' s l⟩⟩
  · cases e⟩
def cutL {α : Type} (xs : List α) (lo hi : Option Int) : List α := (xs.drop (HT.sIx xs.length 0 lo)).take (HT.sIx xs.length xs.length hi - HT.sIx xs.length 0 lo)
theorem cutL_le {α : Type} (xs : List α) (lo hi : Option Int) : (cutL xs lo hi).length ≤ xs.length := by
  unfold cutL
  rw [List.length_take, List.length_drop]; omega
theorem RpA.cut {K : PySem.W.Frag} {H : Hp} {vs : List V} {ds : List D} (r : RpA K H vs ds) (lo hi : Option Int) : RpA K H (cutV vs lo hi) (cutL ds lo hi) := by
  unfold cutV cutL
  rw [r.length]
  exact (r.drop _).take _
theorem cutL_map {α β : Type} (f : α → β) (xs : List α) (lo hi : Option Int) : cutL (xs.map f) lo hi = (cutL xs lo hi).map f := by
  unfold cutL
  rw [List.length_map, ← List.map_drop, ← List.map_take]
theorem cutS_sOf (l : List Nat) (lo hi : Option Int) : cutS (sOf l) lo hi = sOf (cutL l lo hi) := by
  unfold cutS cutL
  rw [sOf_list, sOf_len]; rfl
def gSl (d : D) (lo hi : Option Int) : Option D := match d with
  | .str l => some (.str (cutL l lo hi))
  | .tup xs => some (.tup (cutL xs lo hi))
  | .lst xs => some (.lst (cutL xs lo hi))
  | .scr ns => some (.lst ((cutL ns lo hi).map D.int))
  | _ => none
def eSl (ea : EV) (el eh : Env → Option (Option Int × Env)) : EV := fun L => (ea L).bind fun p => (el p.2).bind fun q => (eh q.2).bind fun r => (gSl p.1 q.1 r.1).map fun d => (d, r.2)
theorem sl_any {X : Cx} : SlR X (fun x lo hi H Q => rSlS x lo hi H Q ∨ rSlA X.K x lo hi H Q ∨ rSlL X.K x lo hi H Q) := sl_str.or (sl_tupA.or sl_list)
theorem Same.new {H : Hp} {p : Addr} {o : HO} (h : H p = none) : Same H (upd H p o) := fun b u hb => by
  rw [upd_ne]; exact hb
  rintro rfl; rw [h] at hb; cases hb
theorem freeze_fresh {K : PySem.W.Frag} {H : Hp} {p : Addr} {vs : List V} {ds : List D} {o : Obj} (hp : H p = none) (r : RpA K H vs ds) :
    Same H (upd (upd H p (.lst vs)) p (.frz o (.lst vs))) ∧ Rp K (upd (upd H p (.lst vs)) p (.frz o (.lst vs))) (.ref p) (.lst ds) := by
  have sm : Same H (upd (upd H p (.lst vs)) p (.frz o (.lst vs))) := fun b u hb => by
    have : b ≠ p := by rintro rfl; rw [hp] at hb; cases hb
    rw [upd_ne this, upd_ne this]; exact hb
  exact ⟨sm, .lst ⟨o, upd_same⟩ (r.mo (Mo.of sm))⟩
theorem ints_lst {K : PySem.W.Frag} {H : Hp} (ns : List Int) : RpA K H (ns.map V.int) (ns.map D.int) := .of_ints ns
theorem je_sl {lo hi : Option Expr} {el eh : Env → Option (Option Int × Env)} (ha : JE Γ a ea) (hl : JP Γ lo el) (hh : JP Γ hi eh) : JE Γ (.Subscript a (.Slice lo hi none p2) pos) (eSl ea el eh) := by
  refine ⟨fun _ _ => rfl, fun X F => pe_mono (pe_fz (pe_slice sl_any (ha.run X F) (hl.run X F) (hh.run X F))) fun σ H Q h => ?_⟩
  obtain ⟨B, L, d, L', R, e, q⟩ := h
  obtain ⟨⟨x, L1⟩, k1, e⟩ := Option.bind_eq_some_iff.mp e
  obtain ⟨⟨l, L2⟩, k2, e⟩ := Option.bind_eq_some_iff.mp e
  obtain ⟨⟨u, L3⟩, k3, e⟩ := Option.bind_eq_some_iff.mp e
  obtain ⟨d', k4, e⟩ := Option.map_eq_some_iff.mp e
  cases e
  refine ⟨B, L, x, L1, R, k1, fun v H1 R1 s1 l1 r1 => ⟨B, L1, l, L2, R1, k2, fun H2 R2 s2 l2 => ⟨B, L2, u, _, R2, k3, fun H3 R3 s3 l3 => ?_⟩⟩⟩
  have r3 : Rp X.K H3 v x := (r1.mo (R1.mo s2)).mo (R2.mo s3)
  have S : Stp L σ H H3 := (s1.trans l1 s2).trans (l1.trans l2) s3
  have LL : LSub L _ := (l1.trans l2).trans l3
  have fin : ∀ {w : V} {H4 : Hp}, Same H3 H4 → Rp X.K H4 w d → Q w H4 := fun sm r => q _ _ (R3.grow sm) (S.trans LL (.of_same sm)) LL r
  cases r3 with
  | str hl =>
    cases k4
    refine .inl ⟨_, rfl, by rw [sOf_len]; exact hl, .inl (fin (.refl _) ?_)⟩
    rw [cutS_sOf]
    exact .str (Nat.le_trans (cutL_le _ _ _) hl)
  | @tup a' vs' ds' hq hr =>
    cases k4
    refine .inr (.inl ⟨_, _, rfl, hq, fun hw => .inl (fin (.refl _) (.tup hq ?_)), fun _ p hp => .inl (fin (Same.new hp) (.tup (.inl (.inl upd_same)) ((hr.cut l u).mo (Mo.of (Same.new hp)))))⟩)
    have : cutL ds' l u = ds' := by
      unfold cutL
      rw [hr.length] at hw
      rw [hw.1, hw.2, List.drop_zero, Nat.sub_zero, List.take_length]
    rw [this]; exact hr
  | lst hq hr =>
    cases k4
    refine .inr (.inr ⟨_, _, rfl, hq.seq, fun p hp => .inr ⟨p, _, upd_same, fun o => ?_⟩⟩)
    obtain ⟨sm, r⟩ := freeze_fresh (o := o) hp (hr.cut l u)
    exact fin sm r
  | @scr a' ns' hq =>
    cases k4
    refine .inr (.inr ⟨_, _, rfl, hq.seq, fun p hp => .inr ⟨p, _, upd_same, fun o => ?_⟩⟩)
    obtain ⟨sm, r⟩ := freeze_fresh (o := o) hp ((ints_lst ns').cut l u)
    rw [cutL_map] at r
    exact fin sm r
  | _ => cases k4
/-- .. a list's, as an own one -/
def gSlO (d : D) (lo hi : Option Int) : Option Cont := match d with
  | .lst xs => some (.l (cutL xs lo hi))
  | .scr ns => some (.l ((cutL ns lo hi).map D.int))
  | _ => none
def oSl (ea : EV) (el eh : Env → Option (Option Int × Env)) : EO := fun L => (ea L).bind fun p => (el p.2).bind fun q => (eh q.2).bind fun r => (gSlO p.1 q.1 r.1).map fun d => (d, r.2)
theorem jo_sl {lo hi : Option Expr} {el eh : Env → Option (Option Int × Env)} (ha : JE Γ a ea) (hl : JP Γ lo el) (hh : JP Γ hi eh) : JO Γ (.Subscript a (.Slice lo hi none p2) pos) (oSl ea el eh) := by
  refine ⟨fun _ _ => rfl, fun X F => pe_mono (pe_slice sl_list (ha.run X F) (hl.run X F) (hh.run X F)) fun σ H Q h => ?_⟩
  obtain ⟨B, L, d, L', R, e, q⟩ := h
  obtain ⟨⟨x, L1⟩, k1, e⟩ := Option.bind_eq_some_iff.mp e
  obtain ⟨⟨l, L2⟩, k2, e⟩ := Option.bind_eq_some_iff.mp e
  obtain ⟨⟨u, L3⟩, k3, e⟩ := Option.bind_eq_some_iff.mp e
  obtain ⟨d', k4, e⟩ := Option.map_eq_some_iff.mp e
  cases e
  refine ⟨B, L, x, L1, R, k1, fun v H1 R1 s1 l1 r1 => ⟨B, L1, l, L2, R1, k2, fun H2 R2 s2 l2 => ⟨B, L2, u, _, R2, k3, fun H3 R3 s3 l3 => ?_⟩⟩⟩
  have r3 : Rp X.K H3 v x := (r1.mo (R1.mo s2)).mo (R2.mo s3)
  have S : Stp L σ H H3 := (s1.trans l1 s2).trans (l1.trans l2) s3
  have LL : LSub L _ := (l1.trans l2).trans l3
  cases r3 with
  | lst hq hr =>
    cases k4
    exact ⟨_, _, rfl, hq.seq, fun p hp => q p _ (R3.grow (Same.new hp)) (S.trans LL (.of_same (Same.new hp))) LL (S.dom _ hp) ⟨_, upd_same, (hr.cut l u).mo (Mo.of (Same.new hp))⟩⟩
  | @scr a' ns' hq =>
    cases k4
    refine ⟨_, _, rfl, hq.seq, fun p hp => q p _ (R3.grow (Same.new hp)) (S.trans LL (.of_same (Same.new hp))) LL (S.dom _ hp) ⟨_, upd_same, ?_⟩⟩
    have := (ints_lst (K := X.K) (H := H3) ns').cut l u
    rw [cutL_map] at this
    exact this.mo (Mo.of (Same.new hp))
  | _ => cases k4

/-! ### displays -/
abbrev EA := Env → Option (List D × Env)
def tAs (K : PySem.W.Frag) (ea : EA) : TA := fun σ H Q => ∃ B L ds L', Rep K B L σ H ∧ ea L = some (ds, L') ∧ ∀ vs H', Rep K B L' σ H' → Stp L σ H H' → LSub L L' → RpA K H' vs ds → Q vs H'
structure JA (Γ : Gm) (es : List Expr) (ea : EA) : Prop where
  run : ∀ X, Fits Γ X → PA X es (tAs X.K ea)
def aNil : EA := fun L => some ([], L)
def aCons (ev : EV) (ea : EA) : EA := fun L => (ev L).bind fun p => (ea p.2).map fun q => (p.1 :: q.1, q.2)
theorem ja_nil : JA Γ [] aNil := ⟨fun X F => pa_mono pa_nil fun σ H Q h => by
  obtain ⟨B, L, d, L', R, e, q⟩ := h
  cases e
  exact q [] H R (.refl _ _ _) (.refl _) .nil⟩
theorem ja_cons {xs : List Expr} {ea : EA} (he : JE Γ e ev) (hr : JA Γ xs ea) : JA Γ (e :: xs) (aCons ev ea) := ⟨fun X F => pa_mono (pa_cons (he.run X F) (hr.run X F) (he.ns _ _)) fun σ H Q h => by
  obtain ⟨B, L, d, L', R, e, q⟩ := h
  obtain ⟨⟨x, L1⟩, k1, e⟩ := Option.bind_eq_some_iff.mp e
  obtain ⟨⟨ds, L2⟩, k2, e⟩ := Option.map_eq_some_iff.mp e
  cases e
  refine ⟨B, L, x, L1, R, k1, fun v H1 R1 s1 l1 r1 => ⟨B, L1, ds, _, R1, k2, fun vs H2 R2 s2 l2 r2 => ?_⟩⟩
  exact q (v :: vs) H2 R2 (s1.trans l1 s2) (l1.trans l2) (.cons (r1.mo (R1.mo s2)) r2)⟩
def eTup (ea : EA) : EV := fun L => (ea L).bind fun p => if p.1.length ≤ 1000 then some (.tup p.1, p.2) else none
def oLst (ea : EA) : EO := fun L => (ea L).bind fun p => if p.1.length ≤ 1000 then some (.l p.1, p.2) else none
theorem je_tup {xs : List Expr} {ea : EA} {k} (h : JA Γ xs ea) : JE Γ (.Tuple xs k pos) (eTup ea) := by
  refine ⟨fun _ _ => rfl, fun X F => pe_mono (pe_tup (h.run X F)) fun σ H Q h => ?_⟩
  obtain ⟨B, L, d, L', R, e, q⟩ := h
  obtain ⟨⟨ds, L1⟩, k1, e⟩ := Option.bind_eq_some_iff.mp e
  split at e
  · rename_i hz
    cases e
    refine ⟨B, L, ds, _, R, k1, fun vs H1 R1 s1 l1 r1 => ⟨by rw [r1.length]; exact Nat.le_of_lt (small1000 hz), fun p hp => ?_⟩⟩
    exact q _ _ (R1.grow (Same.new hp)) (s1.trans l1 (.of_same (Same.new hp))) l1 (.tup (.inl (.inl upd_same)) (r1.mo (Mo.of (Same.new hp))))
  · cases e
theorem jo_lst {xs : List Expr} {ea : EA} (h : JA Γ xs ea) : JO Γ (.List xs pos) (oLst ea) := by
  refine ⟨fun _ _ => rfl, fun X F => pe_mono (pe_lst (h.run X F)) fun σ H Q h => ?_⟩
  obtain ⟨B, L, d, L', R, e, q⟩ := h
  obtain ⟨⟨ds, L1⟩, k1, e⟩ := Option.bind_eq_some_iff.mp e
  split at e
  · rename_i hz
    cases e
    refine ⟨B, L, ds, _, R, k1, fun vs H1 R1 s1 l1 r1 => ⟨by rw [r1.length]; exact Nat.le_of_lt (small1000 hz), fun p hp => ?_⟩⟩
    exact q _ _ (R1.grow (Same.new hp)) (s1.trans l1 (.of_same (Same.new hp))) l1 (s1.dom _ hp) ⟨_, upd_same, r1.mo (Mo.of (Same.new hp))⟩
  · cases e
def oDic : EO := fun L => some (.m [], L)
theorem jo_dic : JO Γ (.Dict [] [] pos) oDic := by
  refine ⟨fun _ _ => rfl, fun X F => pe_mono pe_dnewK fun σ H Q h => ?_⟩
  obtain ⟨B, L, d, L', R, e, q⟩ := h
  cases e
  intro p hp
  exact q p _ (R.grow (Same.new hp)) (.of_same (Same.new hp)) (.refl _) hp ⟨_, upd_same, .nil⟩
/-- a new list, or, where it is empty, another -/
def oOr (ea eb : EO) : EO := fun L => (ea L).bind fun p => match p.1 with
  | .l [] => eb p.2
  | .l (x :: xs) => some (.l (x :: xs), p.2)
  | _ => none
theorem jo_one {op} {eo : EO} (h : JO Γ a eo) : JO Γ (.BoolOp op [a] pos) eo := ⟨fun _ _ => rfl, fun X F => pe_one (h.run X F)⟩
theorem jo_or {oa ob : EO} (ha : JO Γ a oa) (hb : JO Γ b ob) : JO Γ (.BoolOp .Or [a, b] pos) (oOr oa ob) := by
  refine ⟨fun _ _ => rfl, fun X F => pe_mono (pe_orT (ha.run X F) (pe_one (hb.run X F))) fun σ H Q h => ?_⟩
  obtain ⟨B, L, c, L', R, e, q⟩ := h
  obtain ⟨⟨x, L1⟩, k1, e⟩ := Option.bind_eq_some_iff.mp e
  refine ⟨B, L, x, L1, R, k1, fun p H1 R1 s1 l1 n1 r1 => ?_⟩
  match x, e with
  | .l [], e =>
    obtain ⟨vs, h1, h2⟩ := r1
    cases h2
    refine ⟨false, .inl ⟨[], .of h1, rfl⟩, iteF ⟨B, L1, c, L', R1, e, fun p' H2 R2 s2 l2 n2 r2 => ?_⟩⟩
    exact q p' H2 R2 (s1.trans l1 s2) (l1.trans l2) (s1.dom _ n2) r2
  | .l (y :: ys), e =>
    cases e
    obtain ⟨vs, h1, h2⟩ := id r1
    refine ⟨true, .inl ⟨vs, .of h1, ?_⟩, iteT (q p H1 R1 s1 l1 n1 r1)⟩
    cases h2; rfl
  | .m _, e => cases e
end
end DD

end
section
set_option Elab.async false
set_option linter.all false
set_option maxRecDepth 100000
set_option maxHeartbeats 1000000
/-! D4e: x[::-1]. -/
namespace DD
open PySem PySem.Spec PyProof.Rows L2
namespace HT2
open HT
section
variable {prog : Program} {w : World} {A : Around} {E : Value → Shared → Prop} {s : Shared}
theorem sliceApplied_rev {sl : Addr} {vl vu vs : Value} {n : Nat} {Q : Int × Int × Nat → Shared → Prop} (hs : s.heap.IsSliceOf sl vl vu vs) (pl : IsPart vl none) (pu : IsPart vu none) (ps : IsPart vs (some (-1)))
    (h : Q ((n : Int) - 1, -1, n) s) : wpAny (model prog w) A (Builtin.Slice.sliceApplied (.ref sl) (pure (n : Int))) Q E s := by
  obtain ⟨os, hos, hcs, hds⟩ := id hs
  unfold Builtin.Slice.sliceApplied Builtin.Slice.sliceFields
  refine wpAny_bind (wpAny_bind (wpAny_field hos hds (x := vl) rfl (wpAny_bind (wpAny_field hos hds (x := vu) rfl (wpAny_bind (wpAny_field hos hds (x := vs) rfl (wpAny_pure ?_)))))))
  refine wpAny_bind (slicePart_ ps ?_)
  show wpAny _ _ (if ((-1 : Int) == 0) = true then _ else _) _ _ s
  rw [if_neg (by decide)]
  refine wpAny_bind (slicePart_ pl (wpAny_bind (slicePart_ pu (wpAny_bind (wpAny_pure ?_)))))
  show wpAny _ _ (match Builtin.Slice.sliceAdjust none none (-1) (n : Int) with | (lo, hi) => pure (lo, (-1 : Int), Builtin.Slice.slicePlaces lo hi (-1))) _ _ s
  rw [show Builtin.Slice.sliceAdjust none none (-1) (n : Int) = ((n : Int) - 1, -1) from rfl]
  show wpAny _ _ (pure ((n : Int) - 1, (-1 : Int), Builtin.Slice.slicePlaces ((n : Int) - 1) (-1) (-1))) _ _ s
  have e : Builtin.Slice.slicePlaces ((n : Int) - 1) (-1) (-1) = n := by
    unfold Builtin.Slice.slicePlaces
    rw [if_neg (by decide)]
    by_cases hn : (n : Int) - 1 > -1
    · rw [if_pos hn, show (- -1 : Int) = 1 by decide, Int.ediv_one]; omega
    · rw [if_neg hn]; omega
  rw [e]
  exact wpAny_pure h
theorem pick_rev (xs : Array Value) : ((List.range xs.size).filterMap fun (m : Nat) => xs[(((xs.size : Nat) : Int) - 1 + (m : Int) * (-1)).toNat]?).toArray = xs.toList.reverse.toArray := by
  have k := PySem.W.krv_pick xs
  unfold slicePick at k
  rw [PySem.W.krv_bounds] at k
  have k : ((sliceRange ((xs.size : Int) - 1) (-1) (-1)).filterMap (xs[·]?)).toArray = xs.toList.reverse.toArray := k
  rw [PySem.W.krv_sliceRange, List.filterMap_map] at k
  rw [← k]
  congr 2
  funext m
  show xs[(((xs.size : Nat) : Int) - 1 + (m : Int) * (-1)).toNat]? = xs[xs.size - 1 - m]?
  rw [show (((xs.size : Nat) : Int) - 1 + (m : Int) * (-1)).toNat = xs.size - 1 - m by omega]
theorem getItem_tuple_rev {t sl : Addr} {items : Array Value} {vl vu vs : Value} {Q : Value → Shared → Prop} (ht : IsTup s.heap t items) (hs : s.heap.IsSliceOf sl vl vu vs) (pl : IsPart vl none) (pu : IsPart vu none) (ps : IsPart vs (some (-1)))
    (h : Q (.ref s.heap.objs.size) { s with heap := s.heap.push { cls := .type "tuple", data := .seq items.toList.reverse.toArray } })
    (hsz : items.size ≤ sizeLine) : wpAny (model prog w) A (getItem (.ref t) (.ref sl)) Q E s := by
  have htake : sizeOk (.seq items.toList.reverse.toArray) := by
    show items.toList.reverse.toArray.size ≤ sizeLine
    rw [List.size_toArray, List.length_reverse, Array.length_toList]; omega
  obtain ⟨os, hos, hcs, hds⟩ := id hs
  have hTs : s.TypeIs (.ref sl) "slice" := ⟨os, hos, hcs⟩
  unfold getItem
  try with_reducible refine wpAny_holding ?_
  first | refine wpAny_bind (wpAny_pure ?_) | skip
  refine wpAny_bind (wpAny_sequenceKey ht.typeIs (by decide) ?_)
  refine wpAny_bind (wpAny_callSpecial?_slot (name := Str.ofString "__getitem__") ht.typeIs PyProof.Rows.slot_tuple_getitem
    (wpAny_call_entry PyProof.Rows.slot_tuple_getitem ht.typeIs entry_tuple_getitem ?_ (args_tuple_getitem _ _)))
  show wpAny _ _ (Builtin.Tuple.tupleItemsOf (.ref t) >>= _) _ _ s
  refine wpAny_bind (tupleItemsOf_ ht ?_)
  refine wpAny_bind (wpAny_typeOf hTs ?_)
  rw [if_pos (by decide)]
  refine wpAny_bind (sliceApplied_rev hs pl pu ps ?_)
  have hno : ¬ ((((items.size : Nat) : Int) - 1 == 0 && (-1 : Int) == 1 && items.size == items.size) = true) := by
    intro q
    rw [Bool.and_eq_true, Bool.and_eq_true] at q
    exact absurd q.1.2 (by decide)
  show wpAny _ _ (if (((items.size : Nat) : Int) - 1 == 0 && (-1 : Int) == 1 && items.size == items.size) = true then _ else _) _ _ s
  rw [if_neg hno, pick_rev]
  first
    | exact wpAny_bind (m := Builtin.Tuple.tupleExact _) (wpAny_newObj_type (wpAny_pure ⟨_, rfl, wpAny_pure h⟩) htake)
    | exact wpAny_bind (m := Builtin.Tuple.tupleExact _) (wpAny_newObj_type (wpAny_bind (wpAny_pure (wpAny_pure ⟨_, rfl, wpAny_pure h⟩))) htake)
    | exact wpAny_bind (wpAny_bind (m := Builtin.Tuple.tupleExact _) (wpAny_newObj_type (wpAny_pure (wpAny_pure ⟨_, rfl, wpAny_pure h⟩)) htake))
    | exact wpAny_bind (wpAny_bind (m := Builtin.Tuple.tupleExact _) (wpAny_newObj_type (wpAny_pure ⟨_, rfl, wpAny_pure h⟩) htake))
end
end HT2
def tRevD (K : PySem.W.Frag) (te : TE) : TE := fun σ H Q => te σ H fun x H1 => (∃ l, x = .str (sOf l) ∧ l.length ≤ sizeLine ∧ Q (.str (sOf l.reverse)) H1) ∨ (∃ a xs, x = .ref a ∧ SqL K H1 a xs ∧ ∀ p, H1 p = none → Q (.ref p) (upd H1 p (.lst xs.reverse))) ∨ ∃ a xs, x = .ref a ∧ SqT K H1 a xs ∧ ∀ p, H1 p = none → Q (.ref p) (upd H1 p (.tup xs.reverse))
theorem pe_revD {X : Cx} {e : Expr} {te : TE} {k : Nat} {p1 p2 p3 pos : Pos} (he : PE X e te) : PE X (.Subscript e (.Slice none none (some (.UnaryOp .USub (.Constant (.int 1) k p1) p2)) p3) pos) (tRevD X.K te) := by
  refine ⟨fun pins s σ H Q I h => ?_⟩
  refine Subscript_ (thn (he.run pins s σ H _ I h) fun v s1 ⟨x, H1, I1, r1, q1⟩ => ?_)
  have hst : PO X (some (.UnaryOp .USub (.Constant (.int 1) k p1) p2)) (tPart (tUn (rU fun i => .int (-i)) (tC (.int 1)))) := po_some (pe_un un_neg pe_int)
  refine wpAny_Slice (thn (po_none.run pins s1 σ H1 (fun o H2 => o = none ∧ H2 = H1) I1 ⟨rfl, rfl⟩) fun vl s2 ⟨l, H2, I2, pl, el, e2⟩ => ?_)
  subst el e2
  refine thn (po_none.run pins s2 σ H2 (fun o H3 => o = none ∧ H3 = H2) I2 ⟨rfl, rfl⟩) fun vu s3 ⟨u, H3, I3, pu, eu, e3⟩ => ?_
  subst eu e3
  refine thn (hst.run pins s3 σ H3 (fun o H4 => o = some (-1) ∧ H4 = H3) I3 ⟨1, rfl, -1, rfl, rfl, rfl⟩) fun vs s4 ⟨o, H4, I4, ps, eo, e4⟩ => ?_
  subst eo e4
  have I5 : Inv X pins σ H4 { s4 with heap := s4.heap.push { cls := .type "slice", data := .fields #[vl, vu, vs] } } := I4.kept (t' := s4.toks) fun b ob q => Heap.get?_push_of_some _ q
  rcases q1 with ⟨l, rfl, hl, q⟩ | ⟨a, xs, rfl, hx, q⟩ | ⟨a, xs, rfl, hx, q⟩
  · obtain ⟨t, rfl⟩ := r1
    obtain ⟨l1, rfl, h1⟩ := IsPart.raw pl
    obtain ⟨l2, rfl, h2⟩ := IsPart.raw pu
    obtain ⟨l3, rfl, h3⟩ := IsPart.raw ps
    show wpAny (model X.prog X.w) X.A (subscriptTail e (.Slice none none (some (.UnaryOp .USub (.Constant (.int 1) k p1) p2)) p3) (.str (sOf l) t) (.ref s4.heap.objs.size)) (EP X pins σ Q) X.xe { s4 with heap := s4.heap.push { cls := .type "slice", data := .fields #[partValue l1, partValue l2, partValue l3] } }
    refine tail_any (ops := [.str (sOf l) t, .ref s4.heap.objs.size]) (typeIs_str _ _ _) F.slot_str_getitem.lookup ?_ (by with_unfolding_all rfl)
    refine wpAny_getItem_str_slice (l := l1) (u := l2) (st := l3) ⟨_, Heap.get?_push_size _ rfl, rfl, rfl⟩ (by rw [h3]; rfl) ?_
    have e1 : slicePicked (sOf l) l1 l2 l3 = Builtin.Str.strSliceIndices none none (-1) l.length := by
      unfold slicePicked
      rw [h1, h2, h3, sOf_len]; rfl
    unfold sliceMade
    rw [h3, e1]
    show Made.post (if (((some (-1) : Option Int).getD 1 == 1) && _) = true then _ else Made.str ⟨((Builtin.Str.strSliceIndices none none (-1) l.length).filterMap ((sOf l).cps[·]?)).toArray⟩) _ _
    rw [if_neg (by simp), back_pick]
    exact ⟨by show (l.reverse.toArray).size ≤ sizeLine; simpa using hl, .str (sOf l.reverse), H4, I5.tok _, ⟨_, rfl⟩, q⟩
  · cases r1
    obtain ⟨its, r, ht, hz⟩ := I5.list hx
    have hlen := r.length
    show wpAny (model X.prog X.w) X.A (subscriptTail e (.Slice none none (some (.UnaryOp .USub (.Constant (.int 1) k p1) p2)) p3) (.ref a) (.ref s4.heap.objs.size)) (EP X pins σ Q) X.xe { s4 with heap := s4.heap.push { cls := .type "slice", data := .fields #[vl, vu, vs] } }
    refine tail_any (ops := [.ref a, .ref s4.heap.objs.size]) ht.isList.typeIs (PySem.slot_list_getitem.lookup) ?_ (by with_unfolding_all rfl)
    refine wpAny_getItem_list_slice ht.isList (Heap.IsSliceOf.new _ vl vu vs) pl pu ps (by decide) ?_ (by rw [List.size_toArray]; omega)
    rw [PySem.W.krv_pick]
    refine ⟨.ref _, _, I5.laid (t' := s4.toks) (o := .lst xs.reverse) (fun b ob q => Heap.get?_push_of_some _ q) (Nat.le_refl _) ?_, rfl, q _ (I5.hok.fresh (Nat.le_refl _))⟩
    exact ⟨by rw [List.length_reverse]; exact hz, _, 0, r.reverse, Heap.get?_push_size _ rfl⟩
  · cases r1
    obtain ⟨its, r, ht, hz⟩ := I5.tuple hx
    have hlen := r.length
    show wpAny (model X.prog X.w) X.A (subscriptTail e (.Slice none none (some (.UnaryOp .USub (.Constant (.int 1) k p1) p2)) p3) (.ref a) (.ref s4.heap.objs.size)) (EP X pins σ Q) X.xe { s4 with heap := s4.heap.push { cls := .type "slice", data := .fields #[vl, vu, vs] } }
    refine tail_any (ops := [.ref a, .ref s4.heap.objs.size]) ht.typeIs (PyProof.Rows.slot_tuple_getitem.lookup) ?_ (by with_unfolding_all rfl)
    refine HT2.getItem_tuple_rev ht (Heap.IsSliceOf.new _ vl vu vs) pl pu ps ?_ (by rw [List.size_toArray]; omega)
    refine ⟨.ref _, _, I5.laid (t' := s4.toks) (o := .tup xs.reverse) (fun b ob q => Heap.get?_push_of_some _ q) (Nat.le_refl _) ?_, rfl, q _ (I5.hok.fresh (Nat.le_refl _))⟩
    exact ⟨by rw [List.length_reverse]; exact hz, _, r.reverse, IsTup.new _ _⟩
theorem RpA.rev {K : PySem.W.Frag} {H : Hp} : ∀ {vs : List V} {ds : List D}, RpA K H vs ds → RpA K H vs.reverse ds.reverse
  | _, _, .nil => .nil
  | _, _, .cons r t => by rw [List.reverse_cons, List.reverse_cons]; exact (RpA.rev t).append (.cons r .nil)
def gRev : D → Option D
  | .str l => some (.str l.reverse)
  | .lst xs => some (.lst xs.reverse)
  | .tup xs => some (.tup xs.reverse)
  | .scr ns => some (.lst (ns.reverse.map D.int))
  | _ => none
def eRev (ea : EV) : EV := fun L => (ea L).bind fun p => (gRev p.1).map fun d => (d, p.2)
theorem je_rev {Γ : Gm} {e : Expr} {ea : EV} {k : Nat} {p1 p2 p3 pos : Pos} (ha : JE Γ e ea) : JE Γ (.Subscript e (.Slice none none (some (.UnaryOp .USub (.Constant (.int 1) k p1) p2)) p3) pos) (eRev ea) := by
  refine ⟨fun _ _ => rfl, fun X F => pe_mono (pe_fz (pe_revD (ha.run X F))) fun σ H Q h => ?_⟩
  obtain ⟨B, L, d, L', R, e, q⟩ := h
  obtain ⟨⟨x, L1⟩, k1, e⟩ := Option.bind_eq_some_iff.mp e
  obtain ⟨d', k4, e⟩ := Option.map_eq_some_iff.mp e
  cases e
  refine ⟨B, L, x, L1, R, k1, fun v H1 R1 s1 l1 r1 => ?_⟩
  have fin : ∀ {w : V} {H4 : Hp}, Same H1 H4 → Rp X.K H4 w d → Q w H4 := fun sm r => q _ _ (R1.grow sm) (s1.trans l1 (.of_same sm)) l1 r
  cases r1 with
  | str hl =>
    cases k4
    exact .inl ⟨_, rfl, hl, .inl (fin (.refl _) (.str (by rw [List.length_reverse]; exact hl)))⟩
  | lst hq hr =>
    cases k4
    refine .inr (.inl ⟨_, _, rfl, hq.seq, fun p hp => .inr ⟨p, _, upd_same, fun o => ?_⟩⟩)
    obtain ⟨sm, r⟩ := freeze_fresh (o := o) hp hr.rev
    exact fin sm r
  | tup hq hr =>
    cases k4
    refine .inr (.inr ⟨_, _, rfl, hq, fun p hp => .inl ?_⟩)
    have sm : ∀ xs, Same H1 (upd H1 p (.tup xs)) := fun xs b o e => by rw [upd_ne (ne_of_none e hp)]; exact e
    exact fin (sm _) (.tup (.inl (.inl upd_same)) (hr.rev.mo (.of (sm _))))
  | @scr a' ns' hq =>
    cases k4
    refine .inr (.inl ⟨_, _, rfl, hq.seq, fun p hp => .inr ⟨p, _, upd_same, fun o => ?_⟩⟩)
    obtain ⟨sm, r⟩ := freeze_fresh (o := o) hp (ints_lst (K := X.K) (H := H1) ns').rev
    rw [show (ns'.map D.int).reverse = ns'.reverse.map D.int from List.map_reverse.symm] at r
    exact fin sm r
  | _ => cases k4
end DD

end
section
set_option Elab.async false
set_option linter.all false
set_option maxRecDepth 100000
set_option maxHeartbeats 1000000
/-! D5a: calls of defs; one argument at most is changed. -/
namespace DD
open PySem PySem.Spec PyProof.Rows L2

section
variable {K : PySem.W.Frag} {B : Bs} {L : Env} {σ : St} {H H' : Hp}
theorem crp_mo {a : Addr} {c : Cont} (h : CRp K H a c) (k : ∀ b o, H b = some o → b ≠ a → H' b = some o) : Mo H H' := by
  obtain ⟨o, e, n1, n2⟩ := h.some
  refine ⟨fun b xs hb => k b _ hb ?_, fun b ob u hb => k b _ hb ?_⟩
  · rintro rfl; rw [e] at hb; cases hb; exact n1 _ rfl
  · rintro rfl; rw [e] at hb; cases hb; exact n2 _ _ rfl
/-- a live slot's thing has changed, the heap has grown -/
theorem Rep.chg2 (R : Rep K B L σ H) {i : Nat} {s : Slot} {a : Addr} {c c' : Cont} (hi : L[i]? = some s) (hl : s.live = true) (hs : σ[i]? = some (some (.ref a))) (hc : CRp K H a c)
    (k : ∀ b o, H b = some o → b ≠ a → H' b = some o) (hc' : CRp K H' a c') (s' : Slot) (hs' : s' = match s with | .par _ => Slot.par c' | _ => Slot.liv c') : Rep K B (L.set i s') σ H' ∧ Stp L σ H H' := by
  obtain ⟨o, e, _⟩ := hc.some
  obtain ⟨o', e', _⟩ := hc'.some
  have sm : Same H (upd H' a o) := fun b u hb => by
    by_cases z : b = a
    · subst z; rw [upd_same, ← e, hb]
    · rw [upd_ne z]; exact k b u hb z
  have eq : upd (upd H' a o) a o' = H' := by
    funext b
    by_cases z : b = a
    · subst z; rw [upd_same, e']
    · rw [upd_ne z, upd_ne z]
  refine ⟨?_, fun b u hb hn => k b u hb ?_, fun b hb => ?_⟩
  · have := (R.grow sm).chg (o' := o') (c' := c') hi hl hs (by rw [eq]; exact hc') s' hs'
    rw [eq] at this
    exact this
  · rintro rfl; exact hn ⟨i, s, hi, hl, hs⟩
  · cases q : H b with
    | none => rfl
    | some u =>
      by_cases z : b = a
      · subst z; rw [e'] at hb; cases hb
      · rw [k b u q z] at hb; cases hb
/-- a thing of no slot has changed, the heap has grown -/
theorem Rep.other (R : Rep K B L σ H) {a : Addr} {c c' : Cont} (nl : ¬ Live L σ a) (nb : B.H a = none) (hc : CRp K H a c) (k : ∀ b o, H b = some o → b ≠ a → H' b = some o) (hc' : CRp K H' a c') : Rep K B L σ H' := by
  have mo : Mo H H' := crp_mo hc k
  refine ⟨R.len, fun b o h n => k b o (R.base b o h n) ?_, fun i t o h1 h2 => ?_, R.inj, R.pars⟩
  · rintro rfl; rw [h] at nb; cases nb
  · have q := R.slot i t o h1 h2
    cases t with
    | emp => trivial
    | val d => obtain ⟨v, e, r⟩ := q; exact ⟨v, e, r.mo mo⟩
    | liv c =>
      obtain ⟨b, e, z, r⟩ := q
      obtain ⟨u, eu, _⟩ := r.some
      have nb : b ≠ a := by rintro rfl; subst e; exact nl ⟨i, _, h1, rfl, h2⟩
      exact ⟨b, e, z, r.at mo (by rw [k b u eu nb, eu])⟩
    | par c =>
      obtain ⟨b, e, z, r⟩ := q
      obtain ⟨u, eu, _⟩ := r.some
      have nb : b ≠ a := by rintro rfl; subst e; exact nl ⟨i, _, h1, rfl, h2⟩
      exact ⟨b, e, z, r.at mo (by rw [k b u eu nb, eu])⟩
end

/-- an argument: a value, a slot's own thing, a new one -/
inductive AV where
  | v (d : D)
  | s (i : Nat)
  | o (c : Cont)
def AV.chs : AV → Bool
  | .v _ => false
  | _ => true
def contOf : Slot → Option Cont
  | .liv c => some c
  | .par c => some c
  | _ => none
def slotC (L : Env) (i : Nat) : Option Cont := (L[i]?).bind contOf
def setC (L : Env) (i : Nat) (c : Cont) : Env := match L[i]? with
  | some (.liv _) => L.set i (.liv c)
  | some (.par _) => L.set i (.par c)
  | _ => L
theorem slotC_of {K : PySem.W.Frag} {B : Bs} {L : Env} {σ : St} {H : Hp} {i : Nat} {c : Cont} (R : Rep K B L σ H) (h : slotC L i = some c) : ∃ a s, L[i]? = some s ∧ s.live = true ∧ σ[i]? = some (some (.ref a)) ∧ CRp K H a c := by
  obtain ⟨s, e, h2⟩ := Option.bind_eq_some_iff.mp h
  have hi : i < σ.length := by rw [← R.len]; exact (List.getElem?_eq_some_iff.mp e).1
  have q := R.slot i s _ e (List.getElem?_eq_getElem hi)
  cases s with
  | emp => cases h2
  | val d => cases h2
  | liv c' => cases h2; obtain ⟨a, e1, _, r⟩ := q; exact ⟨a, _, e, rfl, by rw [List.getElem?_eq_getElem hi, e1], r⟩
  | par c' => cases h2; obtain ⟨a, e1, _, r⟩ := q; exact ⟨a, _, e, rfl, by rw [List.getElem?_eq_getElem hi, e1], r⟩
theorem Rep.setC {K : PySem.W.Frag} {B : Bs} {L : Env} {σ : St} {H H' : Hp} {i : Nat} {a : Addr} {c c' : Cont} (R : Rep K B L σ H) (h : slotC L i = some c) (hs : σ[i]? = some (some (.ref a))) (k : ∀ b o, H b = some o → b ≠ a → H' b = some o) (hc' : CRp K H' a c') :
    Rep K B (DD.setC L i c') σ H' ∧ Stp L σ H H' ∧ LSub L (DD.setC L i c') := by
  obtain ⟨a', s, e, l, e2, r⟩ := slotC_of R h
  rw [hs] at e2; cases e2
  unfold DD.setC
  rw [e]
  cases s with
  | emp => cases l
  | val d => cases l
  | liv c1 =>
    obtain ⟨h1, h2⟩ := R.chg2 e l hs r k hc' (.liv c') rfl
    exact ⟨h1, h2, .set fun s h _ => by rw [e] at h; cases h; rfl⟩
  | par c1 =>
    obtain ⟨h1, h2⟩ := R.chg2 e l hs r k hc' (.par c') rfl
    exact ⟨h1, h2, .set fun s h _ => by rw [e] at h; cases h; rfl⟩

def AvOk (K : PySem.W.Frag) (L' : Env) (σ : St) (H H' : Hp) : List V → List AV → Prop
  | [], [] => True
  | v :: vs, .v d :: as => Rp K H' v d ∧ AvOk K L' σ H H' vs as
  | v :: vs, .s i :: as => σ[i]? = some (some v) ∧ AvOk K L' σ H H' vs as
  | v :: vs, .o c :: as => ∃ a Hm, v = .ref a ∧ H a = none ∧ Hm a ≠ none ∧ (∀ b, Hm b = none → H b = none) ∧ CRp K H' a c ∧ AvOk K L' σ Hm H' vs as
  | _, _ => False
abbrev EG := Env → Option (List AV × Env)
def tG (K : PySem.W.Frag) (eg : EG) : TA := fun σ H Q => ∃ B L as L', Rep K B L σ H ∧ eg L = some (as, L') ∧ ∀ vs H', Rep K B L' σ H' → Stp L σ H H' → LSub L L' → AvOk K L' σ H H' vs as → Q vs H'
structure JG (Γ : Gm) (es : List Expr) (eg : EG) : Prop where
  run : ∀ X, Fits Γ X → PA X es (tG X.K eg)
def gNil0 : EG := fun L => some ([], L)
def gV (ev : EV) (eg : EG) : EG := fun L => (ev L).bind fun p => (eg p.2).map fun q => (.v p.1 :: q.1, q.2)
def gO (eo : EO) (eg : EG) : EG := fun L => (eo L).bind fun p => (eg p.2).map fun q => (.o p.1 :: q.1, q.2)
def gS (i : Nat) (eg : EG) : EG := fun L => (rdS L i).bind fun _ => (eg L).map fun q => (.s i :: q.1, q.2)
section
variable {Γ : Gm} {pos p1 p2 : Pos} {e : Expr} {es : List Expr} {ev : EV} {eo : EO} {eg : EG}
theorem AvOk.weak {K : PySem.W.Frag} {L' : Env} {σ : St} {H H1 H' : Hp} (d : ∀ b, H1 b = none → H b = none) : ∀ {vs : List V} {as : List AV}, AvOk K L' σ H1 H' vs as → AvOk K L' σ H H' vs as
  | [], [], _ => trivial
  | v :: vs, .v _ :: as, h => ⟨h.1, AvOk.weak d h.2⟩
  | v :: vs, .s _ :: as, h => ⟨h.1, AvOk.weak d h.2⟩
  | v :: vs, .o _ :: as, h => by
    obtain ⟨a, Hm, h1, h2, h3, h4, h5, h6⟩ := h
    exact ⟨a, Hm, h1, d a h2, h3, fun b hb => d b (h4 b hb), h5, h6⟩
theorem jg_nil : JG Γ [] gNil0 := ⟨fun X F => pa_mono pa_nil fun σ H Q h => by
  obtain ⟨B, L, d, L', R, e, q⟩ := h
  cases e
  exact q [] H R (.refl _ _ _) (.refl _) trivial⟩
theorem jg_v (he : JE Γ e ev) (hr : JG Γ es eg) : JG Γ (e :: es) (gV ev eg) := ⟨fun X F => pa_mono (pa_cons (he.run X F) (hr.run X F) (he.ns _ _)) fun σ H Q h => by
  obtain ⟨B, L, d, L', R, e, q⟩ := h
  obtain ⟨⟨x, L1⟩, k1, e⟩ := Option.bind_eq_some_iff.mp e
  obtain ⟨⟨ds, L2⟩, k2, e⟩ := Option.map_eq_some_iff.mp e
  cases e
  refine ⟨B, L, x, L1, R, k1, fun v H1 R1 s1 l1 r1 => ⟨B, L1, ds, _, R1, k2, fun vs H2 R2 s2 l2 r2 => ?_⟩⟩
  exact q (v :: vs) H2 R2 (s1.trans l1 s2) (l1.trans l2) ⟨r1.mo (R1.mo s2), r2.weak s1.dom⟩⟩
theorem jg_o (he : JO Γ e eo) (hr : JG Γ es eg) : JG Γ (e :: es) (gO eo eg) := ⟨fun X F => pa_mono (pa_cons (he.run X F) (hr.run X F) (he.ns _ _)) fun σ H Q h => by
  obtain ⟨B, L, d, L', R, e, q⟩ := h
  obtain ⟨⟨x, L1⟩, k1, e⟩ := Option.bind_eq_some_iff.mp e
  obtain ⟨⟨ds, L2⟩, k2, e⟩ := Option.map_eq_some_iff.mp e
  cases e
  refine ⟨B, L, x, L1, R, k1, fun a H1 R1 s1 l1 n1 r1 => ⟨B, L1, ds, _, R1, k2, fun vs H2 R2 s2 l2 r2 => ?_⟩⟩
  obtain ⟨u, eu, _⟩ := r1.some
  have keep := s2.keep a u eu (R.newNotLive n1 l1)
  exact q (.ref a :: vs) H2 R2 (s1.trans l1 s2) (l1.trans l2) ⟨a, H1, rfl, n1, (by rw [eu]; exact fun z => nomatch z), s1.dom, r1.at (R1.mo s2) (by rw [keep, eu]), r2⟩⟩
theorem jg_s (i : Nat) {x : Str} (hN : Γ.N[i]? = some x) (hv : visS Γ.sc x = true) (hd : (x == ("__debug__" : Str)) = false) (hcd : (x == ("__classdict__" : Str)) = false) (hr : JG Γ es eg) : JG Γ (.Name x p1 :: es) (gS i eg) :=
  ⟨fun X F => pa_mono (pa_cons (pe_var (i := i) (by rw [F.N]; exact hN) (F.visB hv) hd hcd) (hr.run X F) rfl) fun σ H Q h => by
  obtain ⟨B, L, d, L', R, e, q⟩ := h
  obtain ⟨s0, k0, e⟩ := Option.bind_eq_some_iff.mp e
  obtain ⟨⟨ds, L2⟩, k2, e⟩ := Option.map_eq_some_iff.mp e
  cases e
  obtain ⟨v, hv, _⟩ := rdS_of R k0
  exact ⟨v, hv, B, L, ds, _, R, k2, fun vs H2 R2 s2 l2 r2 => q (v :: vs) H2 R2 s2 l2 ⟨hv, r2⟩⟩⟩

/-- the arguments as the callee sees them -/
def argsOf (L : Env) : List AV → Option (List Arg)
  | [] => some []
  | .v d :: r => (argsOf L r).map (Arg.v d :: ·)
  | .s i :: r => (slotC L i).bind fun c => (argsOf L r).map (Arg.c c :: ·)
  | .o c :: r => (argsOf L r).map (Arg.c c :: ·)
/-- what is behind it -/
def backIn (L : Env) : List AV → List Cont → Env
  | [], _ => L
  | .v _ :: r, cs => backIn L r cs
  | .s i :: _, c :: _ => setC L i c
  | _, _ => L
def few (as : List AV) : Bool := decide ((as.filter AV.chs).length ≤ 1)
def callR (F : Fn) (eg : EG) (L : Env) : Option (Ret × Env) := (eg L).bind fun p => if few p.1 = true then (argsOf p.2 p.1).bind fun as => (F as).map fun r => (r.1, backIn p.2 p.1 r.2) else none
def eCall (F : Fn) (eg : EG) : EV := fun L => match callR F eg L with
  | some (.v d, L') => some (d, L')
  | _ => none
def oCall (F : Fn) (eg : EG) : EO := fun L => match callR F eg L with
  | some (.o c, L') => some (c, L')
  | _ => none
theorem args_vals {K : PySem.W.Frag} {L' : Env} {σ : St} {H H' : Hp} : ∀ {vs : List V} {as : List AV} {bs : List Arg} (i : Nat), as.filter AV.chs = [] → AvOk K L' σ H H' vs as → argsOf L' as = some bs → ArgsOk K H' i vs bs [] ∧ ∀ cs, backIn L' as cs = L'
  | [], [], _, i, _, _, h => by cases h; exact ⟨rfl, fun _ => rfl⟩
  | v :: vs, .v d :: as, bs, i, hf, hk, h => by
    obtain ⟨bs', h1, h2⟩ := Option.map_eq_some_iff.mp h
    cases h2
    obtain ⟨k1, k2⟩ := args_vals (as := as) (i + 1) hf hk.2 h1
    exact ⟨⟨hk.1, k1⟩, fun cs => k2 cs⟩
  | v :: vs, .s _ :: as, bs, i, hf, hk, h => by cases hf
  | v :: vs, .o _ :: as, bs, i, hf, hk, h => by cases hf
  | [], _ :: _, _, _, _, hk, _ => hk.elim
  | _ :: _, [], _, _, _, hk, _ => hk.elim
/-- one is changed: where, what, how it lies -/
theorem args_one {K : PySem.W.Frag} {L' : Env} {σ : St} {H H' : Hp} {B : Bs} (R : Rep K B L' σ H') : ∀ {vs : List V} {as : List AV} {bs : List Arg} (i : Nat), (as.filter AV.chs).length = 1 → AvOk K L' σ H H' vs as → argsOf L' as = some bs →
    ∃ j a c, ArgsOk K H' i vs bs [(j, a)] ∧ CRp K H' a c ∧ ((∃ t, slotC L' t = some c ∧ σ[t]? = some (some (.ref a)) ∧ ∀ c' cs, backIn L' as (c' :: cs) = setC L' t c') ∨ (H a = none ∧ ∀ cs, backIn L' as cs = L'))
  | [], [], _, i, hf, _, h => by cases hf
  | v :: vs, .v d :: as, bs, i, hf, hk, h => by
    obtain ⟨bs', h1, h2⟩ := Option.map_eq_some_iff.mp h
    cases h2
    obtain ⟨j, a, c, k1, k2, k3⟩ := args_one R (as := as) (i + 1) hf hk.2 h1
    exact ⟨j, a, c, ⟨hk.1, k1⟩, k2, k3⟩
  | v :: vs, .s t :: as, bs, i, hf, hk, h => by
    obtain ⟨c, h1, h2⟩ := Option.bind_eq_some_iff.mp h
    obtain ⟨bs', h3, h4⟩ := Option.map_eq_some_iff.mp h2
    cases h4
    have hf' : as.filter AV.chs = [] := by
      have : (as.filter AV.chs).length + 1 = 1 := hf
      exact List.eq_nil_of_length_eq_zero (by omega)
    obtain ⟨k1, _⟩ := args_vals (i + 1) hf' hk.2 h3
    obtain ⟨a, s, e1, e2, e3, e4⟩ := slotC_of R h1
    have ev : v = .ref a := by have := hk.1; rw [e3] at this; cases this; rfl
    exact ⟨i, a, c, ⟨a, [], ev, rfl, e4, k1⟩, e4, .inl ⟨t, h1, e3, fun _ _ => rfl⟩⟩
  | v :: vs, .o c :: as, bs, i, hf, hk, h => by
    obtain ⟨bs', h3, h4⟩ := Option.map_eq_some_iff.mp h
    cases h4
    have hf' : as.filter AV.chs = [] := by
      have : (as.filter AV.chs).length + 1 = 1 := hf
      exact List.eq_nil_of_length_eq_zero (by omega)
    obtain ⟨a, Hm, ev, n, _, dm, e4, hk2⟩ := hk
    obtain ⟨k1, _⟩ := args_vals (i + 1) hf' (hk2.weak dm) h3
    exact ⟨i, a, c, ⟨a, [], ev, rfl, e4, k1⟩, e4, .inr ⟨n, fun _ => rfl⟩⟩
  | [], _ :: _, _, _, _, hk, _ => hk.elim
  | _ :: _, [], _, _, _, hk, _ => hk.elim
theorem ArgsOk.len {K : PySem.W.Frag} {H : Hp} : ∀ {i : Nat} {vs : List V} {as : List Arg} {ps : List (Nat × Addr)}, ArgsOk K H i vs as ps → vs.length = as.length
  | _, [], [], _, _ => rfl
  | _, v :: vs, .v d :: as, ps, h => congrArg (· + 1) (ArgsOk.len h.2)
  | _, v :: vs, .c d :: as, ps, h => by
    obtain ⟨a, r, _, _, _, h⟩ := h
    exact congrArg (· + 1) (ArgsOk.len h)
  | _, [], _ :: _, _, h => h.elim
  | _, _ :: _, [], _, h => h.elim
/-- the call's promise, from an evaluator's answer -/
theorem call_core {K : PySem.W.Frag} {F : Fn} {eg : EG} {n : Nat} {σ : St} {H : Hp} {Q : VK} {E : XK} {B : Bs} {L L2 : Env} {r : Ret} (R : Rep K B L σ H) (e : callR F eg L = some (r, L2)) (hn : ∀ as, F as ≠ none → as.length = n)
    (q : ∀ v H', Rep K B L2 σ H' → Stp L σ H H' → LSub L L2 → RetOk K H H' v r → Q v H') : tG K eg σ H fun vs H1 => spF K n F (vs ++ []) H1 Q E := by
  obtain ⟨⟨as, L1⟩, k1, e⟩ := Option.bind_eq_some_iff.mp e
  split at e
  · rename_i hfew
    obtain ⟨bs, k2, e⟩ := Option.bind_eq_some_iff.mp e
    obtain ⟨⟨r', cs⟩, k3, e⟩ := Option.map_eq_some_iff.mp e
    cases e
    refine ⟨B, L, as, L1, R, k1, fun vs H1 R1 s1 l1 r1 => ?_⟩
    show spF K n F (vs ++ []) H1 Q E
    rw [List.append_nil]
    have hfew : (as.filter AV.chs).length ≤ 1 := of_decide_eq_true hfew
    have hbs : bs.length = n := hn bs (by rw [k3]; simp)
    have ret : ∀ {v : V} {H' : Hp}, RetOk K H1 H' v r' → RetOk K H H' v r' := fun {v H'} h => by
      cases r' with
      | v d => exact h
      | o c => obtain ⟨a, h1, h2, h3⟩ := h; exact ⟨a, h1, s1.dom a h2, h3⟩
    by_cases h0 : as.filter AV.chs = []
    · obtain ⟨k4, k5⟩ := args_vals (i := 0) h0 r1 k2
      refine ⟨by rw [k4.len, hbs], bs, [], r', cs, k4, .nil, k3, fun v H' kp hc hr => ?_⟩
      have sm : Same H1 H' := fun b o hb => kp b o hb fun i z => by cases z
      refine q v H' ?_ (s1.trans l1 (.of_same sm)) ?_ (ret hr)
      · show Rep K B (backIn L1 as cs) σ H'
        rw [k5]; exact R1.grow sm
      · show LSub L (backIn L1 as cs)
        rw [k5]; exact l1
    · have h1 : (as.filter AV.chs).length = 1 := by
        cases hq : as.filter AV.chs with
        | nil => exact absurd hq h0
        | cons x xs => rw [hq] at hfew; simp at hfew ⊢; exact hfew
      obtain ⟨j, a, c, k4, k5, k6⟩ := args_one R1 (i := 0) h1 r1 k2
      refine ⟨by rw [k4.len, hbs], bs, [(j, a)], r', cs, k4, by simp, k3, fun v H' kp hc hr => ?_⟩
      have kp' : ∀ b o, H1 b = some o → b ≠ a → H' b = some o := fun b o hb hne => kp b o hb fun i z => by
        rcases List.mem_cons.mp z with z | z
        · cases z; exact hne rfl
        · cases z
      cases cs with
      | nil => exact hc.elim
      | cons c' cs' =>
        have hc' : CRp K H' a c' := hc.1
        rcases k6 with ⟨t, g1, g2, g3⟩ | ⟨g1, g2⟩
        · obtain ⟨m1, m2, m3⟩ := R1.setC g1 g2 kp' hc'
          refine q v H' ?_ (s1.trans l1 m2) ?_ (ret hr)
          · show Rep K B (backIn L1 as (c' :: cs')) σ H'
            rw [g3]; exact m1
          · show LSub L (backIn L1 as (c' :: cs'))
            rw [g3]; exact l1.trans m3
        · have nl : ¬ Live L1 σ a := R.newNotLive g1 l1
          have RR := R1.other nl (R.fresh g1) k5 kp' hc'
          refine q v H' ?_ ⟨fun b u hb hnl => ?_, fun b hb => ?_⟩ ?_ (ret hr)
          · show Rep K B (backIn L1 as (c' :: cs')) σ H'
            rw [g2]; exact RR
          · have := s1.keep b u hb hnl
            refine kp' b u this ?_
            rintro rfl; rw [g1] at hb; cases hb
          · cases z : H b with
            | none => rfl
            | some u =>
              by_cases ea : b = a
              · subst ea; rw [g1] at z; cases z
              · cases z1 : H1 b with
                | none => rw [s1.dom b z1] at z; cases z
                | some u' => rw [kp' b u' z1 ea] at hb; cases hb
          · show LSub L (backIn L1 as (c' :: cs'))
            rw [g2]; exact l1
  · cases e
theorem knows_call {X : Cx} {x : Str} {F : Fn} (h : Knows X x F) (hg : Gl X x) (hN : ∀ env, (backTo pos (starEach es env)).any (·.1) = false) (hs : ∀ env, starEach (e :: es) env = (false, eval e env) :: starEach es env) (hdb : (x == ("__debug__" : Str)) = false) {t : TA} (ha : PA X (e :: es) t) :
    ∃ n, (∀ as, F as ≠ none → as.length = n) ∧ PE X (.Call (.Name x p1) (e :: es) [] pos) (tCall (spF X.K n F) [] (fun _ _ _ => False) t) := by
  obtain ⟨k, f, fd, ps, h1, h2, h3, h4, h5, h6⟩ := h.ex
  exact ⟨ps.length, h6, pe_call h4 h5 hg h1 h2 h3 .nil (fun _ _ _ _ _ _ _ h => h.elim) ha hdb (hs _) (hN _)⟩
theorem je_call {x : Str} {F : Fn} (h : Γ.fn.lookup x = some F) (hg : Γ.nm.lookup x = some .globalImplicit) (ha : JG Γ (e :: es) eg) (hdb : (x == ("__debug__" : Str)) = false)
    (hN : ∀ env, (backTo pos (starEach es env)).any (·.1) = false) (hs : ∀ env, starEach (e :: es) env = (false, eval e env) :: starEach es env) : JE Γ (.Call (.Name x p1) (e :: es) [] pos) (eCall F eg) := by
  refine ⟨fun _ _ => rfl, fun X f => ?_⟩
  obtain ⟨n, hn, hp⟩ := knows_call (p1 := p1) (pos := pos) (f.fn x F h) (f.gl x hg) hN hs hdb (ha.run X f)
  refine pe_mono hp fun σ H Q hq => ?_
  obtain ⟨B, L, d, L', R, e1, q⟩ := hq
  unfold eCall at e1
  split at e1
  · rename_i d' L2 e2
    cases e1
    exact call_core R e2 hn fun v H' R' s l r => q v H' R' s l r
  · cases e1
theorem jo_call {x : Str} {F : Fn} (h : Γ.fn.lookup x = some F) (hg : Γ.nm.lookup x = some .globalImplicit) (ha : JG Γ (e :: es) eg) (hdb : (x == ("__debug__" : Str)) = false)
    (hN : ∀ env, (backTo pos (starEach es env)).any (·.1) = false) (hs : ∀ env, starEach (e :: es) env = (false, eval e env) :: starEach es env) : JO Γ (.Call (.Name x p1) (e :: es) [] pos) (oCall F eg) := by
  refine ⟨fun _ _ => rfl, fun X f => ?_⟩
  obtain ⟨n, hn, hp⟩ := knows_call (p1 := p1) (pos := pos) (f.fn x F h) (f.gl x hg) hN hs hdb (ha.run X f)
  refine pe_mono hp fun σ H Q hq => ?_
  obtain ⟨B, L, d, L', R, e1, q⟩ := hq
  unfold oCall at e1
  split at e1
  · rename_i d' L2 e2
    cases e1
    exact call_core R e2 hn fun v H' R' s l r => by
      obtain ⟨a, rfl, n, hc⟩ := r
      exact q a H' R' s l n hc
  · cases e1
end
end DD

end
section
set_option Elab.async false
set_option linter.all false
set_option maxRecDepth 100000
set_option maxHeartbeats 1000000
/-! D5b: statements (no loops), methods of a name's own list. -/
namespace DD
open PySem PySem.Spec PyProof.Rows L2

inductive Out where
  | nx (L : Env)
  | bk (L : Env)
  | ct (L : Env)
  | rt (r : Ret) (L : Env)
abbrev SV := Env → Option Out
def OutOk (K : PySem.W.Frag) (B : Bs) (H : Hp) (D : Ends) : Out → Prop
  | .nx L => ∀ σ' H', Rep K B L σ' H' → Mo H H' → D.nx σ' H'
  | .bk L => ∀ σ' H', Rep K B L σ' H' → Mo H H' → D.bk σ' H'
  | .ct L => ∀ σ' H', Rep K B L σ' H' → Mo H H' → D.ct σ' H'
  | .rt r L => ∀ v σ' H', Rep K B L σ' H' → Mo H H' → RetOk K B.H H' v r → D.rt v H'
theorem OutOk.mo {K : PySem.W.Frag} {B : Bs} {H H1 : Hp} {D : Ends} {o : Out} (m : Mo H H1) (h : OutOk K B H D o) : OutOk K B H1 D o := by
  cases o with
  | nx L => exact fun σ' H' R m' => h σ' H' R (m.trans m')
  | bk L => exact fun σ' H' R m' => h σ' H' R (m.trans m')
  | ct L => exact fun σ' H' R m' => h σ' H' R (m.trans m')
  | rt r L => exact fun v σ' H' R m' => h v σ' H' R (m.trans m')
def tS (K : PySem.W.Frag) (sv : SV) : TS := fun D σ H => ∃ B L o, Rep K B L σ H ∧ sv L = some o ∧ OutOk K B H D o
structure JSt (Γ : Gm) (st : Stmt) (sv : SV) : Prop where
  run : ∀ X, Fits Γ X → PS X st (tS X.K sv)
structure JSs (Γ : Gm) (sts : List Stmt) (sv : SV) : Prop where
  run : ∀ X, Fits Γ X → PSs X sts (tS X.K sv)
def sNx : SV := fun L => some (.nx L)
def sSeq (a b : SV) : SV := fun L => (a L).bind fun o => match o with
  | .nx L1 => b L1
  | o => some o
section
variable {Γ : Gm} {pos p1 p2 p3 p4 : Pos} {e e2 c : Expr} {ev : EV} {eo : EO} {st : Stmt} {rest : List Stmt} {sv su : SV}
theorem jss_nil : JSs Γ [] sNx := ⟨fun X F => pss_mono pss_nil fun D σ H h => by
  obtain ⟨B, L, o, R, e, ok⟩ := h
  cases e
  exact ok σ H R (.refl _)⟩
theorem jss_cons (h1 : JSt Γ st sv) (h2 : JSs Γ rest su) : JSs Γ (st :: rest) (sSeq sv su) := ⟨fun X F => pss_mono (pss_cons (h1.run X F) (h2.run X F)) fun D σ H h => by
  obtain ⟨B, L, o, R, e, ok⟩ := h
  obtain ⟨o1, k1, e⟩ := Option.bind_eq_some_iff.mp e
  refine ⟨B, L, o1, R, k1, ?_⟩
  cases o1 with
  | nx L1 => exact fun σ' H' R' m => ⟨B, L1, o, R', e, ok.mo m⟩
  | bk L1 => cases e; exact ok
  | ct L1 => cases e; exact ok
  | rt r L1 => cases e; exact ok⟩
theorem jst_pass : JSt Γ (.Pass pos) sNx := ⟨fun X F => ps_mono ps_pass fun D σ H h => by
  obtain ⟨B, L, o, R, e, ok⟩ := h
  cases e
  exact ok σ H R (.refl _)⟩
def sBk : SV := fun L => some (.bk L)
def sCt : SV := fun L => some (.ct L)
theorem jst_break : JSt Γ (.Break pos) sBk := ⟨fun X F => ps_mono ps_break fun D σ H h => by
  obtain ⟨B, L, o, R, e, ok⟩ := h
  cases e
  exact ok σ H R (.refl _)⟩
theorem jst_cont : JSt Γ (.Continue pos) sCt := ⟨fun X F => ps_mono ps_continue fun D σ H h => by
  obtain ⟨B, L, o, R, e, ok⟩ := h
  cases e
  exact ok σ H R (.refl _)⟩
/-- never come to -/
def sNo : SV := fun _ => none
theorem jst_no : JSt Γ st sNo := ⟨fun X F => ps_mono ps_never fun D σ H h => by
  obtain ⟨B, L, o, R, e, ok⟩ := h
  cases e⟩

/-! ### return, if, an expression -/
def sRet (ev : EV) : SV := fun L => (ev L).map fun p => .rt (.v p.1) p.2
def sRetO (eo : EO) : SV := fun L => (eo L).map fun p => .rt (.o p.1) p.2
def sRetN : SV := fun L => some (.rt (.v .non) L)
def sRetL (i : Nat) : SV := fun L => match L[i]? with
  | some (.liv c) => some (.rt (.o c) L)
  | _ => none
theorem jst_ret (h : JE Γ e ev) : JSt Γ (.Return (some e) pos) (sRet ev) := ⟨fun X F => ps_mono (ps_ret (h.run X F)) fun D σ H h => by
  obtain ⟨B, L, o, R, e, ok⟩ := h
  obtain ⟨⟨d, L1⟩, k1, e⟩ := Option.map_eq_some_iff.mp e
  cases e
  exact ⟨B, L, d, L1, R, k1, fun v H' R' s l r => ok v σ H' R' (R.mo s) r⟩⟩
theorem jst_retO (h : JO Γ e eo) : JSt Γ (.Return (some e) pos) (sRetO eo) := ⟨fun X F => ps_mono (ps_ret (h.run X F)) fun D σ H h => by
  obtain ⟨B, L, o, R, e, ok⟩ := h
  obtain ⟨⟨d, L1⟩, k1, e⟩ := Option.map_eq_some_iff.mp e
  cases e
  exact ⟨B, L, d, L1, R, k1, fun a H' R' s l n r => ok _ σ H' R' (R.mo s) ⟨a, rfl, R.fresh n, r⟩⟩⟩
theorem jst_retN : JSt Γ (.Return none pos) sRetN := ⟨fun X F => ps_mono ps_retN fun D σ H h => by
  obtain ⟨B, L, o, R, e, ok⟩ := h
  cases e
  exact ok .non σ H R (.refl _) .non⟩
theorem jst_retL (i : Nat) {x : Str} (hN : Γ.N[i]? = some x) (hv : visS Γ.sc x = true) (hd : (x == ("__debug__" : Str)) = false) (hcd : (x == ("__classdict__" : Str)) = false) : JSt Γ (.Return (some (.Name x p1)) pos) (sRetL i) :=
  ⟨fun X F => ps_mono (ps_ret (pe_var (i := i) (by rw [F.N]; exact hN) (F.visB hv) hd hcd)) fun D σ H h => by
  obtain ⟨B, L, o, R, e, ok⟩ := h
  unfold sRetL at e
  split at e
  · rename_i c hc
    cases e
    have hi : i < σ.length := by rw [← R.len]; exact (List.getElem?_eq_some_iff.mp hc).1
    obtain ⟨a, e1, z, r⟩ := R.slot i _ _ hc (List.getElem?_eq_getElem hi)
    exact ⟨.ref a, by rw [List.getElem?_eq_getElem hi, e1], ok _ σ H R (.refl _) ⟨a, rfl, z, r⟩⟩
  · cases e⟩
def sIf (tc : ET) (a b : SV) : SV := fun L => (tc L).bind fun p => if p.1 = true then a p.2 else b p.2
theorem jst_if {tc : ET} {xs ys : List Stmt} (hc : JT Γ c tc) (ha : JSs Γ xs sv) (hb : JSs Γ ys su) : JSt Γ (.If c xs ys pos) (sIf tc sv su) := ⟨fun X F => ps_mono (ps_if (hc.run X F) (ha.run X F) (hb.run X F)) fun D σ H h => by
  obtain ⟨B, L, o, R, e, ok⟩ := h
  obtain ⟨⟨b, L1⟩, k1, e⟩ := Option.bind_eq_some_iff.mp e
  refine ⟨B, L, b, L1, R, k1, fun H1 R1 s1 l1 => ?_⟩
  cases b with
  | true => exact iteT ⟨B, L1, o, R1, by simpa using e, ok.mo (R.mo s1)⟩
  | false => exact iteF ⟨B, L1, o, R1, by simpa using e, ok.mo (R.mo s1)⟩⟩
def sEx (ev : EV) : SV := fun L => (ev L).map fun p => .nx p.2
theorem jst_ex (h : JE Γ e ev) (hs : ∀ env : PySem.Env, swapsWith e none pos.line env = pure false) : JSt Γ (.Expr e pos) (sEx ev) := ⟨fun X F => ps_mono (ps_expr (h.run X F) (hs _)) fun D σ H h => by
  obtain ⟨B, L, o, R, e, ok⟩ := h
  obtain ⟨⟨d, L1⟩, k1, e⟩ := Option.map_eq_some_iff.mp e
  cases e
  exact ⟨B, L, d, L1, R, k1, fun v H' R' s l r => ok σ H' R' (R.mo s)⟩⟩

/-! ### targets -/
def canPut (L : Env) (i : Nat) : Bool := match L[i]? with
  | some (.par _) => false
  | some _ => true
  | none => false
theorem canPut_of {L : Env} {i : Nat} (h : canPut L i = true) : i < L.length ∧ ∀ c, L[i]? ≠ some (.par c) := by
  unfold canPut at h
  refine ⟨?_, fun c e => ?_⟩
  · cases q : L[i]? with
    | none => rw [q] at h; cases h
    | some s => exact (List.getElem?_eq_some_iff.mp q).1
  · rw [e] at h; cases h
abbrev GV := D → Env → Option Env
structure GOk (L L' : Env) (σ σ' : St) (ts : List Nat) : Prop where
  ls : LSub L L'
  lv : ∀ p, Live L' σ' p → Live L σ p
  wp : ∀ vs, (∀ t ∈ ts, t ∈ vs) → wipe σ' vs = wipe σ vs
/-- the slots that it sets: ts -/
def gT (K : PySem.W.Frag) (ts : List Nat) (g : GV) : TG := fun v σ H Q => ∃ B L d L', Rep K B L σ H ∧ Rp K H v d ∧ g d L = some L' ∧ ∀ σ', Rep K B L' σ' H → GOk L L' σ σ' ts → Q σ' H
structure JG1 (Γ : Gm) (tg : Expr) (ts : List Nat) (g : GV) : Prop where
  run : ∀ X, Fits Γ X → PG X tg (gT X.K ts g)
theorem pg_mono {X : Cx} {e : Expr} {t t' : TG} (h : PG X e t) (m : ∀ v σ H Q, t' v σ H Q → t v σ H Q) : PG X e t' := ⟨fun pins s σ H v u Q I r q => h.run pins s σ H v u Q I r (m v σ H Q q)⟩
theorem pgs_mono {X : Cx} {es : List Expr} {t t' : TGs} (h : PGs X es t) (m : ∀ v σ H Q, t' v σ H Q → t v σ H Q) : PGs X es t' := ⟨fun pins s σ H v u Q I r q => h.run pins s σ H v u Q I r (m v σ H Q q)⟩
theorem pg_or {X : Cx} {e : Expr} {t t' : TG} (h : PG X e t) (h' : PG X e t') : PG X e (fun v σ H Q => t v σ H Q ∨ t' v σ H Q) := ⟨fun pins s σ H v u Q I r q => by
  rcases q with q | q
  · exact h.run pins s σ H v u Q I r q
  · exact h'.run pins s σ H v u Q I r q⟩
def gN (i : Nat) : GV := fun d L => if canPut L i = true then some (L.set i (.val d)) else none
theorem wipe_get {σ : St} {i : Nat} : ∀ {vs : List Nat}, (wipe σ vs)[i]? = if i ∈ vs ∧ i < σ.length then some none else σ[i]?
  | [] => by simp [wipe]
  | v :: vs => by
    unfold wipe
    by_cases e : v = i
    · subst e
      by_cases hv : v < σ.length
      · rw [List.getElem?_set_self (by rw [wipe_length]; exact hv), if_pos ⟨List.mem_cons_self, hv⟩]
      · rw [List.getElem?_eq_none (by rw [List.length_set, wipe_length]; omega), if_neg (by omega), List.getElem?_eq_none (by omega)]
    · rw [List.getElem?_set_ne e, wipe_get]
      by_cases h : i ∈ vs ∧ i < σ.length
      · rw [if_pos h, if_pos ⟨List.mem_cons_of_mem _ h.1, h.2⟩]
      · rw [if_neg h, if_neg]
        rintro ⟨h1, h2⟩
        rcases List.mem_cons.mp h1 with z | z
        · exact e z.symm
        · exact h ⟨z, h2⟩
theorem wipe_set {σ : St} {i : Nat} {o : Option V} {vs : List Nat} (h : i ∈ vs) : wipe (σ.set i o) vs = wipe σ vs := by
  refine List.ext_getElem? fun j => ?_
  rw [wipe_get, wipe_get, List.length_set]
  by_cases hj : j ∈ vs ∧ j < σ.length
  · rw [if_pos hj, if_pos hj]
  · rw [if_neg hj, if_neg hj]
    by_cases e : i = j
    · subst e
      have : ¬ i < σ.length := fun z => hj ⟨h, z⟩
      rw [List.getElem?_eq_none (by rw [List.length_set]; omega), List.getElem?_eq_none (by omega)]
    · rw [List.getElem?_set_ne e]
theorem Rep.putVal {K : PySem.W.Frag} {B : Bs} {L : Env} {σ : St} {H : Hp} {i : Nat} {v : V} {d : D} (R : Rep K B L σ H) (h : canPut L i = true) (r : Rp K H v d) : Rep K B (L.set i (.val d)) (σ.set i (some v)) H := by
  obtain ⟨h1, h2⟩ := canPut_of h
  exact R.put h1 h2 ⟨v, rfl, r⟩ fun z => by cases z
theorem jg_name (i : Nat) {x : Str} (hN : Γ.N[i]? = some x) (hl : Γ.nm.lookup x = some .local ∨ Γ.nm.lookup x = some .cell) (hs : x ∈ Γ.st) : JG1 Γ (.Name x p1) [i] (gN i) := by
  refine ⟨fun X F => pg_mono (pg_name (i := i) F.nd (by rw [F.N]; exact hN) (F.loc x hl) (F.sto x hs)) fun v σ H Q h => ?_⟩
  obtain ⟨B, L, d, L', R, r, e, q⟩ := h
  unfold gN at e
  split at e
  · rename_i hp
    cases e
    refine q _ (R.putVal hp r) ⟨.set (fun s _ z => by cases z), fun p hl => ?_, fun vs hv => wipe_set (hv i (List.mem_cons_self))⟩
    obtain ⟨j, t, h1, h2, h3⟩ := hl
    have hi := (canPut_of hp).1
    by_cases z : j = i
    · subst z
      rw [List.getElem?_set_self hi] at h1; cases h1; cases h2
    · rw [List.getElem?_set_ne (Ne.symm z)] at h1 h3
      exact ⟨j, t, h1, h2, h3⟩
  · cases e
abbrev GVs := List D → Env → Option Env
def gTs (K : PySem.W.Frag) (ts : List Nat) (g : GVs) : TGs := fun vs σ H Q => ∃ B L ds L', Rep K B L σ H ∧ RpA K H vs ds ∧ g ds L = some L' ∧ ∀ σ', Rep K B L' σ' H → GOk L L' σ σ' ts → Q σ' H
structure JG1s (Γ : Gm) (tgs : List Expr) (ts : List Nat) (g : GVs) : Prop where
  run : ∀ X, Fits Γ X → PGs X tgs (gTs X.K ts g)
def gNl : GVs := fun ds L => match ds with
  | [] => some L
  | _ => none
def gCn (g : GV) (gs : GVs) : GVs := fun ds L => match ds with
  | d :: ds => (g d L).bind fun L1 => gs ds L1
  | _ => none
theorem jgs_nil : JG1s Γ [] [] gNl := ⟨fun X F => pgs_mono pgs_nil fun vs σ H Q h => by
  obtain ⟨B, L, ds, L', R, r, e, q⟩ := h
  cases ds with
  | nil => cases e; cases r; exact ⟨rfl, q σ R ⟨.refl _, fun _ h => h, fun _ _ => rfl⟩⟩
  | cons d ds => cases e⟩
theorem jgs_cons {tg : Expr} {tgs : List Expr} {ts ts' : List Nat} {g : GV} {gs : GVs} (h1 : JG1 Γ tg ts g) (h2 : JG1s Γ tgs ts' gs) (hs : ∀ env : PySem.Env, (assignEach (tg :: tgs) env).map (·.2) = assign tg env :: (assignEach tgs env).map (·.2)) : JG1s Γ (tg :: tgs) (ts ++ ts') (gCn g gs) :=
  ⟨fun X F => pgs_mono (pgs_cons (h1.run X F) (h2.run X F) (hs _)) fun vs σ H Q h => by
  obtain ⟨B, L, ds, L', R, r, e, q⟩ := h
  cases ds with
  | nil => cases e
  | cons d ds =>
    obtain ⟨L1, k1, k2⟩ := Option.bind_eq_some_iff.mp e
    cases r with
    | cons r1 r2 =>
      refine ⟨_, _, rfl, B, L, d, L1, R, r1, k1, fun σ1 R1 w1 => ⟨B, L1, ds, L', R1, r2, k2, fun σ2 R2 w2 => ?_⟩⟩
      exact q σ2 R2 ⟨w1.ls.trans w2.ls, fun p hp => w1.lv p (w2.lv p hp), fun vs hv => (w2.wp vs fun t ht => hv t (List.mem_append_right _ ht)).trans (w1.wp vs fun t ht => hv t (List.mem_append_left _ ht))⟩⟩
def gU (n : Nat) (gs : GVs) : GV := fun d L => match d with
  | .tup ds => if ds.length = n then gs ds L else none
  | .lst ds => if ds.length = n then gs ds L else none
  | _ => none
theorem jg_tup {tgs : List Expr} {ts : List Nat} {gs : GVs} {k n : Nat} (h : JG1s Γ tgs ts gs) (hn : ∀ env : PySem.Env, (assignEach tgs env).length = n) (hst : ∀ env : PySem.Env, (assignEach tgs env).findIdx? (·.1) = none) : JG1 Γ (.Tuple tgs k p1) ts (gU n gs) := by
  refine ⟨fun X F => pg_mono (pg_or (pg_tup F.calm (h.run X F) (hn _) (hst _)) (pg_lst F.calm (h.run X F) (hn _) (hst _))) fun v σ H Q hq => ?_⟩
  obtain ⟨B, L, d, L', R, r, e, q⟩ := hq
  cases r with
  | @tup a vs ds hs hr =>
    have e : (if ds.length = n then gs ds L else none) = some L' := e
    split at e
    · rename_i hl
      exact .inl ⟨_, _, rfl, hs, by rw [hr.length, hl], B, L, ds, L', R, hr, e, q⟩
    · cases e
  | @lst a vs ds hs hr =>
    have e : (if ds.length = n then gs ds L else none) = some L' := e
    split at e
    · rename_i hl
      exact .inr ⟨_, _, rfl, hs.seq, by rw [hr.length, hl], B, L, ds, L', R, hr, e, q⟩
    · cases e
  | _ => cases e

/-! ### assignments -/
def sAs (g : GV) (ev : EV) : SV := fun L => (ev L).bind fun p => (g p.1 p.2).map .nx
theorem jst_set {x : Str} (i : Nat) (he : JE Γ e ev) (hN : Γ.N[i]? = some x) (hl : Γ.nm.lookup x = some .local ∨ Γ.nm.lookup x = some .cell) (hs : x ∈ Γ.st) (hw : ∀ env : PySem.Env, swapsWith e (some (.Name x p1)) pos.line env = pure false) : JSt Γ (.Assign [.Name x p1] e pos) (sAs (gN i) ev) := by
  refine ⟨fun X F => ps_mono (ps_set (i := i) F.nd (by rw [F.N]; exact hN) (F.loc x hl) (he.run X F) (hw _) (F.sto x hs)) fun D σ H h => ?_⟩
  obtain ⟨B, L, o, R, e, ok⟩ := h
  obtain ⟨⟨d, L1⟩, k1, e⟩ := Option.bind_eq_some_iff.mp e
  obtain ⟨L2, k2, e⟩ := Option.map_eq_some_iff.mp e
  cases e
  unfold gN at k2
  split at k2
  · rename_i hp
    cases k2
    exact ⟨B, L, d, L1, R, k1, fun v H' R' s l r => ok _ H' (R'.putVal hp r) (R.mo s)⟩
  · cases k2
/-- .. of a tuple of targets -/
theorem jst_as {tg : Expr} {ts : List Nat} {g : GV} (he : JE Γ e ev) (hg : JG1 Γ tg ts g) (hs : ∀ env : PySem.Env, swapsWithSole [tg] e pos.line env = pure false) (hw : ∀ env : PySem.Env, swappedStores [tg] e env = pure none) (h1 : ∀ env : PySem.Env, (assignEach [tg] env).map (·.2) = [assign tg env]) : JSt Γ (.Assign [tg] e pos) (sAs g ev) := by
  refine ⟨fun X F => ps_mono (ps_asg (he.run X F) (hg.run X F) (hs _) (hw _) (h1 _)) fun D σ H h => ?_⟩
  obtain ⟨B, L, o, R, e, ok⟩ := h
  obtain ⟨⟨d, L1⟩, k1, e⟩ := Option.bind_eq_some_iff.mp e
  obtain ⟨L2, k2, e⟩ := Option.map_eq_some_iff.mp e
  cases e
  exact ⟨B, L, d, L1, R, k1, fun v H' R' s l r => ⟨B, L1, d, L2, R', r, k2, fun σ' R2 _ => ok σ' H' R2 (R.mo s)⟩⟩
def sOw (i : Nat) (eo : EO) : SV := fun L => (eo L).bind fun p => if canPut p.2 i = true then some (.nx (p.2.set i (.liv p.1))) else none
theorem Rep.putOwn {K : PySem.W.Frag} {B : Bs} {L L' : Env} {σ : St} {H H' : Hp} {i : Nat} {a : Addr} {c : Cont} (R : Rep K B L σ H) (R' : Rep K B L' σ H') (ls : LSub L L') (n : H a = none) (h : canPut L' i = true) (r : CRp K H' a c) : Rep K B (L'.set i (.liv c)) (σ.set i (some (.ref a))) H' := by
  obtain ⟨h1, h2⟩ := canPut_of h
  refine R'.put h1 h2 ⟨a, rfl, R.fresh n, r⟩ fun _ j t b hj e1 e2 e3 z => ?_
  cases z
  exact R.newNotLive n ls ⟨j, t, e1, e2, e3⟩
theorem jst_own {x : Str} (i : Nat) (he : JO Γ e eo) (hN : Γ.N[i]? = some x) (hl : Γ.nm.lookup x = some .local ∨ Γ.nm.lookup x = some .cell) (hs : x ∈ Γ.st) (hw : ∀ env : PySem.Env, env.scope = Γ.sc → swapsWith e (some (.Name x p1)) pos.line env = pure false) : JSt Γ (.Assign [.Name x p1] e pos) (sOw i eo) := by
  refine ⟨fun X F => ps_mono (ps_set (i := i) F.nd (by rw [F.N]; exact hN) (F.loc x hl) (he.run X F) (hw _ F.sc) (F.sto x hs)) fun D σ H h => ?_⟩
  obtain ⟨B, L, o, R, e, ok⟩ := h
  obtain ⟨⟨d, L1⟩, k1, e⟩ := Option.bind_eq_some_iff.mp e
  split at e
  · rename_i hp
    cases e
    exact ⟨B, L, d, L1, R, k1, fun a H' R' s l n r => ok _ H' (R.putOwn R' l n hp r) (R.mo s)⟩
  · cases e
/-- a, b = x, y by plain locals -/
def putAV (L : Env) (i : Nat) : AV → Option Env
  | .v d => if canPut L i = true then some (L.set i (.val d)) else none
  | .o c => if canPut L i = true then some (L.set i (.liv c)) else none
  | .s _ => none
def AvAt (K : PySem.W.Frag) (B : Bs) (L : Env) (σ : St) (H' : Hp) (v : V) : AV → Prop
  | .v d => Rp K H' v d
  | .o c => ∃ p, v = .ref p ∧ B.H p = none ∧ CRp K H' p c ∧ ¬ Live L σ p
  | .s _ => False
theorem putAV_ok {K : PySem.W.Frag} {B : Bs} {L L1 : Env} {σ : St} {H' : Hp} {i : Nat} {v : V} {a : AV} (R : Rep K B L σ H') (h : AvAt K B L σ H' v a) (e : putAV L i a = some L1) :
    Rep K B L1 (σ.set i (some v)) H' ∧ ∀ p, Live L1 (σ.set i (some v)) p → Live L σ p ∨ ((∃ c, a = .o c) ∧ v = .ref p) := by
  have old : ∀ (s : Slot) (p : Addr), i < L.length → Live (L.set i s) (σ.set i (some v)) p → Live L σ p ∨ (s.live = true ∧ v = .ref p) := fun s p hi hl => by
    obtain ⟨j, t, h1, h2, h3⟩ := hl
    by_cases z : j = i
    · subst z
      rw [List.getElem?_set_self hi] at h1; cases h1
      rw [List.getElem?_set_self (by rw [← R.len]; exact hi)] at h3; cases h3
      exact .inr ⟨h2, rfl⟩
    · rw [List.getElem?_set_ne (Ne.symm z)] at h1 h3
      exact .inl ⟨j, t, h1, h2, h3⟩
  cases a with
  | v d =>
    have e : (if canPut L i = true then some (L.set i (.val d)) else none) = some L1 := e
    split at e
    · rename_i hp
      cases e
      refine ⟨R.putVal hp h, fun p hl => ?_⟩
      rcases old _ p (canPut_of hp).1 hl with z | ⟨z, _⟩
      · exact .inl z
      · cases z
    · cases e
  | o c =>
    have e : (if canPut L i = true then some (L.set i (.liv c)) else none) = some L1 := e
    split at e
    · rename_i hp
      cases e
      obtain ⟨p, rfl, nb, hc, nl⟩ := h
      obtain ⟨h1, h2⟩ := canPut_of hp
      refine ⟨R.put h1 h2 ⟨p, rfl, nb, hc⟩ fun _ j t b hj e1 e2 e3 z => ?_, fun q hl => ?_⟩
      · cases z; exact nl ⟨j, t, e1, e2, e3⟩
      · rcases old _ q h1 hl with z | ⟨_, z⟩
        · exact .inl z
        · exact .inr ⟨⟨c, rfl⟩, z⟩
    · cases e
  | s _ => cases e
/-- one argument after another, each put where it belongs -/
def putAll (L : Env) : List Nat → List AV → Option Env
  | i :: is, a :: as => (putAV L i a).bind fun L1 => putAll L1 is as
  | [], [] => some L
  | _, _ => none
def setAll (σ : St) : List Nat → List V → St
  | i :: is, v :: vs => setAll (σ.set i (some v)) is vs
  | _, _ => σ
theorem putAll_ok {K : PySem.W.Frag} {B : Bs} {H0 H' : Hp} {Lx : Env} {σx : St} : ∀ {is : List Nat} {vs : List V} {as : List AV} {L L1 : Env} {σ : St} {H : Hp}, Rep K B L σ H' → (∀ p, H p = none → B.H p = none ∧ ¬ Live L σ p) → AvOk K Lx σx H H' vs as → putAll L is as = some L1 → Rep K B L1 (setAll σ is vs) H'
  | [], [], [], L, L1, σ, H, R, _, _, e => by cases e; exact R
  | i :: is, v :: vs, .v d :: as, L, L1, σ, H, R, hn, hk, e => by
    obtain ⟨L2, k1, k2⟩ := Option.bind_eq_some_iff.mp e
    obtain ⟨R2, l2⟩ := putAV_ok R (v := v) (a := .v d) hk.1 k1
    refine putAll_ok (H0 := H0) (is := is) (as := as) R2 (fun p hp => ⟨(hn p hp).1, fun hl => ?_⟩) hk.2 k2
    rcases l2 p hl with z | ⟨⟨c, z⟩, _⟩
    · exact (hn p hp).2 z
    · cases z
  | i :: is, v :: vs, .o c :: as, L, L1, σ, H, R, hn, hk, e => by
    obtain ⟨a, Hm, rfl, na, nm, dm, hc, hk2⟩ := hk
    obtain ⟨L2, k1, k2⟩ := Option.bind_eq_some_iff.mp e
    obtain ⟨R2, l2⟩ := putAV_ok R (v := .ref a) (a := .o c) ⟨a, rfl, (hn a na).1, hc, (hn a na).2⟩ k1
    refine putAll_ok (H0 := H0) (is := is) (as := as) R2 (fun p hp => ⟨(hn p (dm p hp)).1, fun hl => ?_⟩) hk2 k2
    rcases l2 p hl with z | ⟨_, z⟩
    · exact (hn p (dm p hp)).2 z
    · cases z; exact nm hp
  | i :: is, v :: vs, .s _ :: as, L, L1, σ, H, R, hn, hk, e => by cases e
  | [], _, _ :: _, L, L1, σ, H, R, hn, hk, e => by cases e
  | _ :: _, _, [], L, L1, σ, H, R, hn, hk, e => by cases e
  | [], _ :: _, [], L, L1, σ, H, R, hn, hk, e => hk.elim
  | _ :: _, [], _ :: _, L, L1, σ, H, R, hn, hk, e => hk.elim
def sPar (is : List Nat) (eg : EG) : SV := fun L => (eg L).bind fun p => (putAll p.2 is p.1).map .nx
theorem AvOk.len {K : PySem.W.Frag} {Lx : Env} {σx : St} : ∀ {H H' : Hp} {vs : List V} {as : List AV}, AvOk K Lx σx H H' vs as → vs.length = as.length
  | _, _, [], [], _ => rfl
  | _, _, v :: vs, .v _ :: as, h => congrArg (· + 1) (AvOk.len h.2)
  | _, _, v :: vs, .s _ :: as, h => congrArg (· + 1) (AvOk.len h.2)
  | _, _, v :: vs, .o _ :: as, h => by
    obtain ⟨_, _, _, _, _, _, _, h⟩ := h
    exact congrArg (· + 1) (AvOk.len h)
  | _, _, [], _ :: _, h => h.elim
  | _, _, _ :: _, [], h => h.elim
theorem putAll_len : ∀ {is : List Nat} {as : List AV} {L L1 : Env}, putAll L is as = some L1 → as.length = is.length
  | [], [], _, _, _ => rfl
  | i :: is, a :: as, L, L1, e => by
    obtain ⟨L2, _, k2⟩ := Option.bind_eq_some_iff.mp e
    exact congrArg (· + 1) (putAll_len k2)
  | [], _ :: _, _, _, e => by cases e
  | _ :: _, [], _, _, e => by cases e
theorem sPar_run {K : PySem.W.Frag} {B : Bs} {L : Env} {σ : St} {H : Hp} {D : Ends} {o : Out} {is : List Nat} {eg : EG} (R : Rep K B L σ H) (e : sPar is eg L = some o) (ok : OutOk K B H D o) :
    tG K eg σ H fun vs H' => vs.length = is.length ∧ D.nx (setAll σ is vs) H' := by
  obtain ⟨⟨as, L1⟩, k1, e⟩ := Option.bind_eq_some_iff.mp e
  obtain ⟨L2, k2, e⟩ := Option.map_eq_some_iff.mp e
  cases e
  refine ⟨B, L, as, L1, R, k1, fun vs H' R' s l hk => ⟨by rw [hk.len, putAll_len k2], ?_⟩⟩
  exact ok _ H' (putAll_ok (H0 := H) R' (fun p hp => ⟨R.fresh hp, R.newNotLive hp l⟩) hk k2) (R.mo s)
/-- a scope alone, as an environment -/
def envAt (sc : Scope) (env : PySem.Env) : PySem.Env := { env with scope := sc }
theorem swapped_scope {ts : List Expr} {v : Expr} {env env' : PySem.Env} (h : env.scope = env'.scope) : swappedStores ts v env = swappedStores ts v env' := by
  unfold swappedStores Env.blockKind Env.kindOf
  rw [h]
theorem swaps_scope {v : Expr} {t : Option Expr} {n : Nat} {env env' : PySem.Env} (h : env.scope = env'.scope) : swapsWith v t n env = swapsWith v t n env' := by
  unfold swapsWith Env.blockKind Env.kindOf
  rw [h]
theorem jst_par {i j : Nat} {x y : Str} {a b : Expr} {eg : EG} {px py pt : Pos} {kt k2 pt2} (ha : JG Γ [a, b] eg) (hi : Γ.N[i]? = some x) (hj : Γ.N[j]? = some y) (hij : i ≠ j) (hx : Γ.nm.lookup x = some .local) (hy : Γ.nm.lookup y = some .local)
    (hw : ∀ env : PySem.Env, env.scope = Γ.sc → swappedStores [.Tuple [.Name x px, .Name y py] kt pt] (.Tuple [a, b] k2 pt2) env = pure (some [x, y])) (hs : ∀ env : PySem.Env, swapsWithSole [.Tuple [.Name x px, .Name y py] kt pt] (.Tuple [a, b] k2 pt2) pos.line env = pure false) :
    JSt Γ (.Assign [.Tuple [.Name x px, .Name y py] kt pt] (.Tuple [a, b] k2 pt2) pos) (sPar [i, j] eg) := by
  refine ⟨fun X F => ps_mono (ps_par F.calm F.nd (by rw [F.N]; exact hi) (by rw [F.N]; exact hj) hij (by rw [F.sc]; exact hx) (by rw [F.sc]; exact hy) (ha.run X F) (hw _ F.sc) (hs _)) fun D σ H h => ?_⟩
  obtain ⟨B, L, o, R, e, ok⟩ := h
  have := sPar_run R e ok
  obtain ⟨B', L', as, L1, R', k, q⟩ := this
  refine ⟨B', L', as, L1, R', k, fun vs H' R2 s l hk => ?_⟩
  obtain ⟨h1, h2⟩ := q vs H' R2 s l hk
  match vs, h1, h2 with
  | [v, w], _, h2 => exact ⟨v, w, rfl, h2⟩
theorem jst_par3 {i j l : Nat} {x y z : Str} {a b c : Expr} {eg : EG} {px py pz pt : Pos} {kt k2 pt2} (ha : JG Γ [a, b, c] eg) (hi : Γ.N[i]? = some x) (hj : Γ.N[j]? = some y) (hl : Γ.N[l]? = some z) (hij : i ≠ j) (hil : i ≠ l) (hjl : j ≠ l)
    (hx : Γ.nm.lookup x = some .local) (hy : Γ.nm.lookup y = some .local) (hz : Γ.nm.lookup z = some .local)
    (hw : ∀ env : PySem.Env, env.scope = Γ.sc → swappedStores [.Tuple [.Name x px, .Name y py, .Name z pz] kt pt] (.Tuple [a, b, c] k2 pt2) env = pure (some [x, y, z])) (hs : ∀ env : PySem.Env, swapsWithSole [.Tuple [.Name x px, .Name y py, .Name z pz] kt pt] (.Tuple [a, b, c] k2 pt2) pos.line env = pure false) :
    JSt Γ (.Assign [.Tuple [.Name x px, .Name y py, .Name z pz] kt pt] (.Tuple [a, b, c] k2 pt2) pos) (sPar [i, j, l] eg) := by
  refine ⟨fun X F => ps_mono (ps_par3 F.calm F.nd (by rw [F.N]; exact hi) (by rw [F.N]; exact hj) (by rw [F.N]; exact hl) hij hil hjl (by rw [F.sc]; exact hx) (by rw [F.sc]; exact hy) (by rw [F.sc]; exact hz) (ha.run X F) (hw _ F.sc) (hs _)) fun D σ H h => ?_⟩
  obtain ⟨B, L, o, R, e, ok⟩ := h
  have := sPar_run R e ok
  obtain ⟨B', L', as, L1, R', k, q⟩ := this
  refine ⟨B', L', as, L1, R', k, fun vs H' R2 s l hk => ?_⟩
  obtain ⟨h1, h2⟩ := q vs H' R2 s l hk
  match vs, h1, h2 with
  | [u, v, w], _, h2 => exact ⟨u, v, w, rfl, h2⟩
end
end DD

end
section
set_option Elab.async false
set_option linter.all false
set_option maxRecDepth 100000
set_option maxHeartbeats 1000000
/-! D5c: a name's own list or dict is changed. -/
namespace DD
open PySem PySem.Spec PyProof.Rows L2
section
variable {Γ : Gm} {pos p1 p2 p3 p4 apos : Pos} {e e2 c b : Expr} {ev eb : EV} {eo : EO} {x : Str}

/-! ### x.append(e), x.pop(i), x.pop(), x.extend(e) -/
def lsOf (L : Env) (i : Nat) : Option (List D) := match slotC L i with
  | some (.l xs) => some xs
  | _ => none
theorem lsOf_some {L : Env} {i : Nat} {xs : List D} (h : lsOf L i = some xs) : slotC L i = some (.l xs) := by
  unfold lsOf at h
  split at h
  · rename_i ys e; cases h; exact e
  · cases h
def eApp (i : Nat) (ev : EV) : EV := fun L => (lsOf L i).bind fun _ => (ev L).bind fun p => (lsOf p.2 i).bind fun xs => if xs.length ≤ 100000 then some (.non, setC p.2 i (.l (xs ++ [p.1]))) else none
def ePopA (i : Nat) (ev : EV) : EV := fun L => (lsOf L i).bind fun _ => (ev L).bind fun p => match p.1 with
  | .int k => (lsOf p.2 i).bind fun xs => (seqIndex? k xs.length).bind fun j => if -(2 ^ 63) ≤ k ∧ k < 2 ^ 63 then (xs[j]?).map fun y => (y, setC p.2 i (.l (xs.eraseIdx j))) else none
  | _ => none
theorem own_list {K : PySem.W.Frag} {B : Bs} {L : Env} {σ : St} {H : Hp} {i : Nat} {xs : List D} (R : Rep K B L σ H) (h : lsOf L i = some xs) : ∃ a vs, σ[i]? = some (some (.ref a)) ∧ H a = some (.lst vs) ∧ RpA K H vs xs := by
  obtain ⟨a, s, e1, e2, e3, vs, h1, h2⟩ := slotC_of R (lsOf_some h)
  exact ⟨a, vs, e3, h1, h2⟩
theorem Rep.setL {K : PySem.W.Frag} {B : Bs} {L : Env} {σ : St} {H : Hp} {i : Nat} {a : Addr} {xs ys : List D} {ws : List V} (R : Rep K B L σ H) (h : lsOf L i = some xs) (hs : σ[i]? = some (some (.ref a))) (hr : RpA K H ws ys) :
    Rep K B (DD.setC L i (.l ys)) σ (upd H a (.lst ws)) ∧ Stp L σ H (upd H a (.lst ws)) ∧ LSub L (DD.setC L i (.l ys)) ∧ Mo H (upd H a (.lst ws)) := by
  obtain ⟨a', s, e1, e2, e3, vs, h1, h2⟩ := slotC_of R (lsOf_some h)
  rw [hs] at e3; cases e3
  have kp : ∀ b o, H b = some o → b ≠ a → upd H a (.lst ws) b = some o := fun b o hb hn => by rw [upd_ne hn]; exact hb
  have mo : Mo H (upd H a (.lst ws)) := crp_mo (c := .l xs) ⟨vs, h1, h2⟩ kp
  obtain ⟨m1, m2, m3⟩ := R.setC (c' := .l ys) (lsOf_some h) hs kp ⟨ws, upd_same, hr.mo mo⟩
  exact ⟨m1, m2, m3, mo⟩
theorem je_app (i : Nat) (hN : Γ.N[i]? = some x) (hv : visS Γ.sc x = true) (hd : (x == ("__debug__" : Str)) = false) (hcd : (x == ("__classdict__" : Str)) = false) (he : JE Γ e ev) (hbase : ∀ env : PySem.Env, attributeBase (.Name x p1) "append" env (eval (.Name x p1) env) = eval (.Name x p1) env)
    (hfew : ∀ env : PySem.Env, ((backTo pos (starEach [e] env)).all (fun x => !x.1) && (backToKw pos (keywordEach [] env)).all (fun x => x.1.isSome) && decide ([e].length + ([] : List Keyword).length + (if ([] : List Keyword).isEmpty then 0 else 1) < 30)) = true)
    (hline : (apos.endLine == pos.line) = true) : JE Γ (.Call (.Attribute (.Name x p1) "append" apos) [e] [] pos) (eApp i ev) := by
  refine ⟨fun _ _ => rfl, fun X F => pe_mono (pe_bm PySem.F.plainAttrs_list PySem.F.slot_list_append PySem.F.type_list_append mt_append (pe_var (i := i) (by rw [F.N]; exact hN) (F.visB hv) hd hcd) (pa_cons (he.run X F) pa_nil (he.ns _ _)) (hbase _) (hfew _) hline (he.ns _ _) rfl) fun σ H Q h => ?_⟩
  obtain ⟨B, L, d, L', R, e, q⟩ := h
  obtain ⟨xs0, k0, e⟩ := Option.bind_eq_some_iff.mp e
  obtain ⟨⟨y, L1⟩, k1, e⟩ := Option.bind_eq_some_iff.mp e
  obtain ⟨xs, k2, e⟩ := Option.bind_eq_some_iff.mp e
  obtain ⟨a, vs0, hs, ha, _⟩ := own_list R k0
  refine ⟨.ref a, hs, .inl ⟨rfl, vs0, .of ha⟩, B, L, y, L1, R, k1, fun v H1 R1 s1 l1 r1 => ?_⟩
  split at e
  · rename_i hz
    cases e
    obtain ⟨a', vs, hs', ha', hr⟩ := own_list R1 k2
    rw [hs] at hs'; cases hs'
    obtain ⟨m1, m2, m3, _⟩ := R1.setL (ys := xs ++ [y]) (ws := vs ++ [v]) k2 hs (hr.append (.cons r1 .nil))
    exact ⟨a, vs, v, rfl, rfl, ha', by have := hr.length; have : xs.length ≤ 100000 := hz; exact Nat.lt_of_le_of_lt (by omega : vs.length ≤ 100000) (by decide), q .non _ m1 (s1.trans l1 m2) (l1.trans m3) .non⟩
  · cases e
theorem je_popA (i : Nat) (hN : Γ.N[i]? = some x) (hv : visS Γ.sc x = true) (hd : (x == ("__debug__" : Str)) = false) (hcd : (x == ("__classdict__" : Str)) = false) (he : JE Γ e ev) (hbase : ∀ env : PySem.Env, attributeBase (.Name x p1) "pop" env (eval (.Name x p1) env) = eval (.Name x p1) env)
    (hfew : ∀ env : PySem.Env, ((backTo pos (starEach [e] env)).all (fun x => !x.1) && (backToKw pos (keywordEach [] env)).all (fun x => x.1.isSome) && decide ([e].length + ([] : List Keyword).length + (if ([] : List Keyword).isEmpty then 0 else 1) < 30)) = true)
    (hline : (apos.endLine == pos.line) = true) : JE Γ (.Call (.Attribute (.Name x p1) "pop" apos) [e] [] pos) (ePopA i ev) := by
  refine ⟨fun _ _ => rfl, fun X F => pe_mono (pe_bm PySem.F.plainAttrs_list PySem.F.slot_list_pop PySem.F.type_list_pop mt_popAt (pe_var (i := i) (by rw [F.N]; exact hN) (F.visB hv) hd hcd) (pa_cons (he.run X F) pa_nil (he.ns _ _)) (hbase _) (hfew _) hline (he.ns _ _) rfl) fun σ H Q h => ?_⟩
  obtain ⟨B, L, d, L', R, e, q⟩ := h
  obtain ⟨xs0, k0, e⟩ := Option.bind_eq_some_iff.mp e
  obtain ⟨⟨y, L1⟩, k1, e⟩ := Option.bind_eq_some_iff.mp e
  obtain ⟨a, vs0, hs, ha, _⟩ := own_list R k0
  refine ⟨.ref a, hs, .inl ⟨rfl, vs0, .of ha⟩, B, L, y, L1, R, k1, fun v H1 R1 s1 l1 r1 => ?_⟩
  cases y with
  | int k =>
    obtain ⟨xs, k2, e⟩ := Option.bind_eq_some_iff.mp e
    obtain ⟨j, k3, e⟩ := Option.bind_eq_some_iff.mp e
    split at e
    · rename_i hz
      obtain ⟨z, k4, e⟩ := Option.map_eq_some_iff.mp e
      cases e
      obtain ⟨a', vs, hs', ha', hr⟩ := own_list R1 k2
      rw [hs] at hs'; cases hs'
      obtain ⟨w, hw, rw'⟩ := hr.get k4
      obtain ⟨m1, m2, m3, m4⟩ := R1.setL (ys := xs.eraseIdx j) (ws := vs.eraseIdx j) k2 hs (hr.erase j)
      rw [r1.int_of]
      exact ⟨a, vs, k, j, w, rfl, rfl, ha', hz.1, hz.2, by rw [hr.length]; exact k3, hw, q w _ m1 (s1.trans l1 m2) (l1.trans m3) (rw'.mo m4)⟩
    · cases e
  | _ => cases e
def ePop (i : Nat) : EV := fun L => (lsOf L i).bind fun xs => (xs[xs.length - 1]?).map fun y => (y, setC L i (.l xs.dropLast))
theorem RpA.dropLast {K : PySem.W.Frag} {H : Hp} : ∀ {vs : List V} {ds : List D}, RpA K H vs ds → RpA K H vs.dropLast ds.dropLast
  | _, _, .nil => .nil
  | _, _, .cons r .nil => .nil
  | _, _, .cons r (.cons s t) => .cons r (RpA.dropLast (.cons s t))
theorem je_pop (i : Nat) (hN : Γ.N[i]? = some x) (hv : visS Γ.sc x = true) (hd : (x == ("__debug__" : Str)) = false) (hcd : (x == ("__classdict__" : Str)) = false) (hbase : ∀ env : PySem.Env, attributeBase (.Name x p1) "pop" env (eval (.Name x p1) env) = eval (.Name x p1) env)
    (hline : (apos.endLine == pos.line) = true) : JE Γ (.Call (.Attribute (.Name x p1) "pop" apos) [] [] pos) (ePop i) := by
  refine ⟨fun _ _ => rfl, fun X F => pe_mono (pe_bm0 PySem.F.plainAttrs_list PySem.F.slot_list_pop PySem.F.type_list_pop mt_pop (pe_var (i := i) (by rw [F.N]; exact hN) (F.visB hv) hd hcd) (hbase _) hline) fun σ H Q h => ?_⟩
  obtain ⟨B, L, d, L', R, e, q⟩ := h
  obtain ⟨xs, k0, e⟩ := Option.bind_eq_some_iff.mp e
  obtain ⟨y, k4, e⟩ := Option.map_eq_some_iff.mp e
  cases e
  obtain ⟨a, vs, hs, ha, hr⟩ := own_list R k0
  obtain ⟨w, hw, rw'⟩ := hr.get k4
  obtain ⟨m1, m2, m3, m4⟩ := R.setL (ys := xs.dropLast) (ws := vs.dropLast) k0 hs hr.dropLast
  exact ⟨.ref a, hs, .inl ⟨rfl, vs, .of ha⟩, a, vs, w, rfl, rfl, ha, by rw [hr.length]; exact hw, q w _ m1 m2 m3 (rw'.mo m4)⟩

/-! ### x[i] = e -/
def rPutM : TSet := fun o i v H Q => ∃ a k kvs, o = .ref a ∧ i = kV k ∧ H a = some (.dK kvs) ∧ kvs.length < sizeLine ∧ Q (upd H a (.dK (putK kvs k v)))
theorem set_M {X : Cx} (hu : X.A.units + 1 < cLine) : PSet X rPutM := by
  intro pins s σ H o i v ov iv u Q I ro ri rv h
  obtain ⟨a, k, kvs, rfl, rfl, he, hz, q⟩ := h
  cases ro
  exact d_setItem hu I (DPut.k he hz) ri rv fun s' I' => ⟨_, I', q⟩
theorem set_any {X : Cx} (hu : X.A.units + 1 < cLine) : PSet X (fun o i v H Q => rSetL o i v H Q ∨ rPutM o i v H Q) := by
  intro pins s σ H o i v ov iv u Q I ro ri rv h
  rcases h with h | h
  · exact set_list pins s σ H o i v ov iv u Q I ro ri rv h
  · exact set_M hu pins s σ H o i v ov iv u Q I ro ri rv h
def putC (c : Cont) (k d : D) : Option Cont := match c, k with
  | .l xs, .int i => (ixN xs.length i).map fun j => .l (xs.set j d)
  | .m kvs, k => (keyOf k).bind fun key => if kvs.length ≤ 100000 then some (.m (putD kvs key d)) else none
  | _, _ => none
def sPut (i : Nat) (eb ev : EV) : SV := fun L => (ev L).bind fun p => (slotC p.2 i).bind fun _ => (eb p.2).bind fun q => (slotC q.2 i).bind fun c => (putC c q.1 p.1).map fun c' => .nx (setC q.2 i c')
theorem jst_put (i : Nat) (hN : Γ.N[i]? = some x) (hv : visS Γ.sc x = true) (hd : (x == ("__debug__" : Str)) = false) (hcd : (x == ("__classdict__" : Str)) = false) (hb : JE Γ b eb) (he : JE Γ e ev)
    (ha : ∀ (env : PySem.Env) (v : Value), assign (.Subscript (.Name x p1) b p2) env v = (do
      let ov ← holding [v] (eval (.Name x p1) env)
      let iv ← holding [v, ov] (eval b env)
      standAt p2
      holding [v, ov, iv] (setItem ov iv v)
      release [v, ov, iv] []))
    (hs : ∀ env : PySem.Env, swapsWithSole [.Subscript (.Name x p1) b p2] e pos.line env = pure false) (hw : ∀ env : PySem.Env, swappedStores [.Subscript (.Name x p1) b p2] e env = pure none) (h1 : ∀ env : PySem.Env, (assignEach [.Subscript (.Name x p1) b p2] env).map (·.2) = [assign (.Subscript (.Name x p1) b p2) env]) :
    JSt Γ (.Assign [.Subscript (.Name x p1) b p2] e pos) (sPut i eb ev) := by
  refine ⟨fun X F => ps_mono (ps_asg (he.run X F) (pg_sub (pe_var (i := i) (by rw [F.N]; exact hN) (F.visB hv) hd hcd) (hb.run X F) (set_any (by have := F.un; omega)) (ha _)) (hs _) (hw _) (h1 _)) fun D σ H h => ?_⟩
  obtain ⟨B, L, o, R, e, ok⟩ := h
  obtain ⟨⟨d, L1⟩, k1, e⟩ := Option.bind_eq_some_iff.mp e
  obtain ⟨c0, k0, e⟩ := Option.bind_eq_some_iff.mp e
  obtain ⟨⟨k, L2⟩, k2, e⟩ := Option.bind_eq_some_iff.mp e
  obtain ⟨c1, k3, e⟩ := Option.bind_eq_some_iff.mp e
  obtain ⟨c2, k4, e⟩ := Option.map_eq_some_iff.mp e
  cases e
  refine ⟨B, L, d, L1, R, k1, fun v H1 R1 s1 l1 r1 => ?_⟩
  obtain ⟨a, s, _, _, hs0, _⟩ := slotC_of R1 k0
  refine ⟨.ref a, hs0, B, L1, k, L2, R1, k2, fun u H2 R2 s2 l2 r2 => ?_⟩
  obtain ⟨a', s', _, _, hs1, hc⟩ := slotC_of R2 k3
  rw [hs0] at hs1; cases hs1
  have rv : Rp X.K H2 v d := r1.mo (R1.mo s2)
  have m0 : Mo H H2 := (R.mo s1).trans (R1.mo s2)
  cases c1 with
  | l xs =>
    cases k with
    | int n =>
      obtain ⟨j, k5, k6⟩ := Option.map_eq_some_iff.mp (show (ixN xs.length n).map (fun j => Cont.l (xs.set j d)) = some c2 from k4)
      cases k6
      obtain ⟨vs, hv, hr⟩ := hc
      have lo : lsOf L2 i = some xs := by unfold lsOf; rw [k3]
      obtain ⟨m1, m2, m3, m4⟩ := R2.setL (ys := xs.set j d) (ws := vs.set j v) lo hs0 (hr.set rv j)
      rw [r2.int_of]
      exact .inl ⟨a, vs, n, j, rfl, rfl, hv, by rw [hr.length]; exact k5, ok _ _ m1 (m0.trans m4)⟩
    | _ => cases k4
  | m kvs =>
    obtain ⟨kk, k5, k6⟩ := Option.bind_eq_some_iff.mp (show (keyOf k).bind (fun key => if kvs.length ≤ 100000 then some (Cont.m (putD kvs key d)) else none) = some c2 from k4)
    split at k6
    · rename_i hz
      cases k6
      obtain ⟨vs, hv, hr⟩ := id hc
      have kp : ∀ b o, H2 b = some o → b ≠ a → upd H2 a (.dK (putK vs kk v)) b = some o := fun b o hb hn => by rw [upd_ne hn]; exact hb
      have mo : Mo H2 (upd H2 a (.dK (putK vs kk v))) := crp_mo hc kp
      obtain ⟨m1, m2, m3⟩ := R2.setC (c' := .m (putD kvs kk d)) k3 hs0 kp ⟨_, upd_same, RpM.mo mo (RpM.put hr rv)⟩
      exact .inr ⟨a, kk, vs, rfl, keyOf_kV r2 k5, hv, by have := RpM.length hr; have : kvs.length ≤ 100000 := hz; exact Nat.lt_of_le_of_lt (by omega : vs.length ≤ 100000) (by decide), ok _ _ m1 (m0.trans mo)⟩
    · cases k6

/-! ### x op= e -/
def sAug (g : D → D → Option D) (i : Nat) (ev : EV) : SV := fun L => match L[i]? with
  | some (.val x) => (ev L).bind fun p => (g x p.1).bind fun z => if canPut p.2 i = true then some (.nx (p.2.set i (.val z))) else none
  | _ => none
theorem jst_aug {op : Operator} {g : D → D → Option D} (i : Nat) (ho : Op2 Γ (inplaceOp op) g) (hN : Γ.N[i]? = some x) (hl : Γ.nm.lookup x = some .local ∨ Γ.nm.lookup x = some .cell) (hs : x ∈ Γ.st) (he : JE Γ e ev) : JSt Γ (.AugAssign (.Name x p1) op e pos) (sAug g i ev) := by
  refine ⟨fun X F => ?_⟩
  obtain ⟨r, h1, h2⟩ := ho.run X F
  refine ps_mono (ps_aug (i := i) (ti := r) F.nd (by rw [F.N]; exact hN) (F.loc x hl) (he.run X F) h1 (F.sto x hs)) fun D σ H h => ?_
  obtain ⟨B, L, o, R, e, ok⟩ := h
  unfold sAug at e
  split at e
  · rename_i d0 hd0
    obtain ⟨⟨d, L1⟩, k1, e⟩ := Option.bind_eq_some_iff.mp e
    obtain ⟨z, k2, e⟩ := Option.bind_eq_some_iff.mp e
    split at e
    · rename_i hp
      cases e
      have hi : i < σ.length := by rw [← R.len]; exact (List.getElem?_eq_some_iff.mp hd0).1
      obtain ⟨v0, e1, r0⟩ := R.slot i _ _ hd0 (List.getElem?_eq_getElem hi)
      refine ⟨v0, by rw [List.getElem?_eq_getElem hi, e1], B, L, d, L1, R, k1, fun v H1 R1 s1 l1 r1 => ?_⟩
      exact h2 d0 d z k2 v0 v H1 _ (r0.mo (R.mo s1)) r1 fun w H2 sm rw' => ok _ H2 ((R1.grow sm).putVal hp rw') ((R.mo s1).trans (Mo.of sm))
    · cases e
  · cases e
def gIadd : D → D → Option D
  | .int i, .int j => some (.int (i + j))
  | .str a, .str b => if a.length + b.length ≤ 16777216 then some (.str (a ++ b)) else none
  | _, _ => none
theorem sOf_app (a b : List Nat) : sOf a ++ sOf b = sOf (a ++ b) := by
  show (⟨a.toArray ++ b.toArray⟩ : Str) = ⟨(a ++ b).toArray⟩
  simp
theorem i_add : Op2 Γ (inplaceOp .Add) gIadd := by
  refine ⟨fun X F => ⟨_, OpR.or' iop_add iop_add_str, fun x y d hd v u H Q rx ry k => ?_⟩⟩
  unfold gIadd at hd
  split at hd
  · cases hd
    rw [rx.int_of, ry.int_of]
    exact .inl ⟨_, _, rfl, rfl, k _ H (.refl _) (.int _)⟩
  · rename_i a b
    split at hd
    · rename_i hz
      cases hd
      have hz' : a.length + b.length ≤ sizeLine := Nat.le_trans hz (by decide)
      rw [rx.str_of.1, ry.str_of.1]
      refine .inr ⟨_, _, rfl, rfl, by rw [sOf_len, sOf_len]; exact hz', ?_⟩
      rw [sOf_app]
      exact k _ H (.refl _) (.str (by rw [List.length_append]; exact hz'))
    · cases hd
  · cases hd
def gIsub : D → D → Option D
  | .int i, .int j => some (.int (i - j))
  | _, _ => none
theorem i_sub : Op2 Γ (inplaceOp .Sub) gIsub := by
  refine ⟨fun X F => ⟨_, iop_sub, fun x y d hd v u H Q rx ry k => ?_⟩⟩
  unfold gIsub at hd
  split at hd
  · cases hd
    rw [rx.int_of, ry.int_of]
    exact ⟨_, _, rfl, rfl, k _ H (.refl _) (.int _)⟩
  · cases hd
end
end DD

end
section
set_option Elab.async false
set_option linter.all false
set_option maxRecDepth 100000
set_option maxHeartbeats 1000000
/-! D5d: what is walked; for, while; list comprehensions. -/
namespace DD
open PySem PySem.Spec PyProof.Rows L2 RZ

/-! ### what is walked -/
def Wlk (K : PySem.W.Frag) (H0 : Hp) (J : It) (ds : List D) : Prop := ∀ i Hc, Mo H0 Hc → (∀ d, ds[i]? = some d → J.go i Hc ∧ ∀ x H', J.yld i Hc x H' → Same Hc H' ∧ Rp K H' x d) ∧ (ds.length ≤ i → J.stop i Hc)
abbrev EI := Env → Option (List D × Env)
def tI (K : PySem.W.Frag) (it : EI) : TI := fun σ H R => ∃ B L ds L', Rep K B L σ H ∧ it L = some (ds, L') ∧ ∀ J H', Rep K B L' σ H' → Stp L σ H H' → LSub L L' → Wlk K H' J ds → R J H'
structure JI (Γ : Gm) (tg iter : Expr) (it : EI) : Prop where
  run : ∀ X, Fits Γ X → PI X tg iter (tI X.K it)
theorem pi_mono {X : Cx} {tg e : Expr} {t t' : TI} (h : PI X tg e t) (m : ∀ σ H R, t' σ H R → t σ H R) : PI X tg e t' := ⟨fun pins s σ H R I q => h.run pins s σ H R I (m σ H R q)⟩
theorem pi_or {X : Cx} {tg e : Expr} {t t' : TI} (h : PI X tg e t) (h' : PI X tg e t') : PI X tg e (fun σ H R => t σ H R ∨ t' σ H R) := ⟨fun pins s σ H R I q => by
  rcases q with q | q
  · exact h.run pins s σ H R I q
  · exact h'.run pins s σ H R I q⟩
def itemsD : D → Option (List D)
  | .lst xs => some xs
  | .tup xs => some xs
  | .str l => some (l.map fun c => .str [c])
  | .scr ns => some (ns.map D.int)
  | _ => none
def itV (ev : EV) : EI := fun L => (ev L).bind fun p => (itemsD p.1).map fun ds => (ds, p.2)
section
variable {K : PySem.W.Frag} {H H0 : Hp} {a : Addr} {vs : List V} {ds : List D}
theorem wlk_list (h : FzL K H a vs ∨ FzK K H a vs) (r : RpA K H vs ds) : Wlk K H (Itl K a) ds := fun i Hc m => by
  have hq : SqL K Hc a vs := h.elim (fun z => (m.fzl z).seq) fun z => (m.fzk z).seq
  refine ⟨fun d hd => ?_, fun hl => ⟨vs, hq, by rw [r.length]; exact hl⟩⟩
  obtain ⟨v, h1, h2⟩ := r.get hd
  refine ⟨⟨vs, v, hq, h1⟩, fun x H' y => ?_⟩
  obtain ⟨rfl, y⟩ := y
  have := (y vs hq).symm.trans h1
  cases this
  exact ⟨.refl _, h2.mo m⟩
theorem wlk_tup (h : SqT K H a vs) (r : RpA K H vs ds) : Wlk K H (Itt K a) ds := fun i Hc m => by
  have hq : SqT K Hc a vs := m.sqt h
  refine ⟨fun d hd => ?_, fun hl => ⟨vs, hq, by rw [r.length]; exact hl⟩⟩
  obtain ⟨v, h1, h2⟩ := r.get hd
  refine ⟨⟨vs, v, hq, h1⟩, fun x H' y => ?_⟩
  obtain ⟨rfl, y⟩ := y
  have := (y vs hq).symm.trans h1
  cases this
  exact ⟨.refl _, h2.mo m⟩
theorem wlk_str (l : List Nat) : Wlk K H (Its (sOf l)) (l.map fun c => .str [c]) := fun i Hc m => by
  refine ⟨fun d hd => ?_, fun hl => ?_⟩
  · rw [List.getElem?_map] at hd
    obtain ⟨c, h1, h2⟩ := Option.map_eq_some_iff.mp hd
    subst h2
    have hi : i < l.length := (List.getElem?_eq_some_iff.mp h1).1
    have key : (sOf l).cps[i]? = l[i]? := by rw [← Array.getElem?_toList, sOf_list]
    refine ⟨by show i < l.toArray.size; simpa using hi, fun x H' y => ?_⟩
    obtain ⟨rfl, c', e1, rfl⟩ := y
    rw [key, h1] at e1
    cases e1
    exact ⟨.refl _, .str (by show 1 ≤ sizeLine; decide)⟩
  · rw [List.length_map] at hl
    show l.toArray.size ≤ i
    simpa using hl
theorem wlk_rng (lo : Int) (n : Nat) : Wlk K H (Itr lo n) ((List.range n).map fun (k : Nat) => D.int (lo + k)) := fun i Hc m => by
  refine ⟨fun d hd => ?_, fun hl => ?_⟩
  · rw [List.getElem?_map] at hd
    obtain ⟨c, h1, h2⟩ := Option.map_eq_some_iff.mp hd
    subst h2
    have hi : i < n := by have := (List.getElem?_eq_some_iff.mp h1).1; simpa using this
    rw [List.getElem?_range hi] at h1
    cases h1
    refine ⟨hi, fun x H' y => ?_⟩
    obtain ⟨rfl, rfl⟩ := y
    exact ⟨.refl _, .int _⟩
  · show n ≤ i
    simpa using hl
theorem wlk_enum (h : FzL K H a vs ∨ FzK K H a vs) (r : RpA K H vs ds) : Wlk K H (Ite K a) ((ds.zipIdx).map fun p => D.tup [.int (p.2 : Nat), p.1]) := fun i Hc m => by
  have hq : SqL K Hc a vs := h.elim (fun z => (m.fzl z).seq) fun z => (m.fzk z).seq
  refine ⟨fun d hd => ?_, fun hl => ⟨vs, hq, by rw [r.length]; simpa using hl⟩⟩
  rw [List.getElem?_map, List.getElem?_zipIdx] at hd
  obtain ⟨p, h1, h2⟩ := Option.map_eq_some_iff.mp hd
  obtain ⟨d0, h3, h4⟩ := Option.map_eq_some_iff.mp h1
  subst h4 h2
  obtain ⟨v, h5, h6⟩ := r.get h3
  refine ⟨⟨vs, v, hq, h5⟩, fun x H' y => ?_⟩
  obtain ⟨T, x', rfl, hT, rfl, y⟩ := y
  have := (y vs hq).symm.trans h5
  cases this
  have e0 : (((d0, 0 + i) : D × Nat).2 : Int) = ((i : Nat) : Int) := by simp
  refine ⟨Same.new hT, .tup (.inl (.inl upd_same)) (.cons ?_ (.cons ((h6.mo m).mo (Mo.of (Same.new hT))) .nil))⟩
  rw [e0]; exact .int _
theorem wlk_zipL {b : Addr} {ws : List V} {es : List D} (h : FzL K H a vs ∨ FzK K H a vs) (r : RpA K H vs ds) (h' : FzL K H b ws ∨ FzK K H b ws) (r' : RpA K H ws es) : Wlk K H (Itz K a b) ((ds.zip es).map fun p => D.tup [p.1, p.2]) := fun i Hc m => by
  have hq : SqL K Hc a vs := h.elim (fun z => (m.fzl z).seq) fun z => (m.fzk z).seq
  have hq' : SqL K Hc b ws := h'.elim (fun z => (m.fzl z).seq) fun z => (m.fzk z).seq
  refine ⟨fun d hd => ?_, fun hl => ⟨vs, ws, hq, hq', ?_⟩⟩
  · rw [List.getElem?_map] at hd
    obtain ⟨⟨d1, d2⟩, h1, h2⟩ := Option.map_eq_some_iff.mp hd
    subst h2
    obtain ⟨g1, g2⟩ := List.getElem?_zip_eq_some.mp h1
    obtain ⟨v, h5, h6⟩ := r.get g1
    obtain ⟨w, h7, h8⟩ := r'.get g2
    refine ⟨⟨vs, ws, v, w, hq, hq', h5, h7⟩, fun x H' y => ?_⟩
    obtain ⟨T, x', y', rfl, hT, rfl, y1, y2⟩ := y
    have := (y1 vs hq).symm.trans h5
    cases this
    have := (y2 ws hq').symm.trans h7
    cases this
    exact ⟨Same.new hT, .tup (.inl (.inl upd_same)) (.cons ((h6.mo m).mo (Mo.of (Same.new hT))) (.cons ((h8.mo m).mo (Mo.of (Same.new hT))) .nil))⟩
  · rw [List.length_map, List.length_zip] at hl
    rw [r.length, r'.length]; omega
theorem wlk_zipT {b : Addr} {ws : List V} {es : List D} (h : SqT K H a vs) (r : RpA K H vs ds) (h' : SqT K H b ws) (r' : RpA K H ws es) : Wlk K H (ItzT K a b) ((ds.zip es).map fun p => D.tup [p.1, p.2]) := fun i Hc m => by
  have hq := m.sqt h
  have hq' := m.sqt h'
  refine ⟨fun d hd => ?_, fun hl => ⟨vs, ws, hq, hq', ?_⟩⟩
  · rw [List.getElem?_map] at hd
    obtain ⟨⟨d1, d2⟩, h1, h2⟩ := Option.map_eq_some_iff.mp hd
    subst h2
    obtain ⟨g1, g2⟩ := List.getElem?_zip_eq_some.mp h1
    obtain ⟨v, h5, h6⟩ := r.get g1
    obtain ⟨w, h7, h8⟩ := r'.get g2
    refine ⟨⟨vs, ws, v, w, hq, hq', h5, h7⟩, fun x H' y => ?_⟩
    obtain ⟨T, x', y', rfl, hT, rfl, y1, y2⟩ := y
    have := (y1 vs hq).symm.trans h5
    cases this
    have := (y2 ws hq').symm.trans h7
    cases this
    exact ⟨Same.new hT, .tup (.inl (.inl upd_same)) (.cons ((h6.mo m).mo (Mo.of (Same.new hT))) (.cons ((h8.mo m).mo (Mo.of (Same.new hT))) .nil))⟩
  · rw [List.length_map, List.length_zip] at hl
    rw [r.length, r'.length]; omega
end
section
variable {Γ : Gm} {pos p1 p2 p3 p4 tpos : Pos} {tg e e2 c b : Expr} {ev eb : EV} {eo : EO} {x : Str} {elts : List Expr} {kk : Nat}
theorem ji_val (h : JE Γ e ev) : JI Γ tg e (itV ev) := by
  refine ⟨fun X F => pi_mono (pi_or (pi_list (h.run X F)) (pi_or (pi_tup (h.run X F)) (pi_str (h.run X F)))) fun σ H R hq => ?_⟩
  obtain ⟨B, L, ds, L', Rr, e1, q⟩ := hq
  obtain ⟨⟨d, L1⟩, k1, e1⟩ := Option.bind_eq_some_iff.mp e1
  obtain ⟨ds', k2, e1⟩ := Option.map_eq_some_iff.mp e1
  cases e1
  cases d with
  | lst xs =>
    cases k2
    refine .inl ⟨B, L, _, L1, Rr, k1, fun v H' R' s l r => ?_⟩
    cases r with
    | lst h1 h2 => exact ⟨_, rfl, ⟨_, h1.seq⟩, q _ H' R' s l (wlk_list (.inl h1) h2)⟩
  | scr ns =>
    cases k2
    refine .inl ⟨B, L, _, L1, Rr, k1, fun v H' R' s l r => ?_⟩
    cases r with
    | scr h1 => exact ⟨_, rfl, ⟨_, h1.seq⟩, q _ H' R' s l (wlk_list (.inr h1) (.of_ints ns))⟩
  | tup xs =>
    cases k2
    refine .inr (.inl ⟨B, L, _, L1, Rr, k1, fun v H' R' s l r => ?_⟩)
    cases r with
    | tup h1 h2 => exact ⟨_, rfl, ⟨_, h1⟩, q _ H' R' s l (wlk_tup h1 h2)⟩
  | str l =>
    cases k2
    refine .inr (.inr ⟨B, L, _, L1, Rr, k1, fun v H' R' s l r => ?_⟩)
    obtain ⟨rfl, _⟩ := r.str_of
    exact ⟨_, rfl, q _ H' R' s l (wlk_str _)⟩
  | _ => cases k2
def itR1 (ev : EV) : EI := fun L => match ev L with
  | some (.int j, L') => if -(2 ^ 62) ≤ j ∧ j < 2 ^ 62 then some ((List.range j.toNat).map fun (k : Nat) => D.int (0 + k), L') else none
  | _ => none
theorem ji_range1 (hg : Γ.nm.lookup ("range" : Str) = some .globalImplicit) (hb : ("range" : Str) ∈ Γ.bi) (h : JE Γ e ev) : JI Γ tg (.Call (.Name "range" p1) [e] [] pos) (itR1 ev) := by
  refine ⟨fun X F => pi_mono (pi_range1 (F.gl _ hg) (F.bi _ hb) (pa_cons (h.run X F) pa_nil (h.ns _ _)) (h.ns _ _)) fun σ H R hq => ?_⟩
  obtain ⟨B, L, ds, L', Rr, e1, q⟩ := hq
  unfold itR1 at e1
  split at e1
  · rename_i j L1 k1
    split at e1
    · rename_i hj
      cases e1
      refine ⟨B, L, _, _, Rr, k1, fun v H' R' s l r => ⟨j, by rw [r.int_of], hj.1, hj.2, q _ H' R' s l (wlk_rng 0 _)⟩⟩
    · cases e1
  · cases e1
def itR2 (ev eb : EV) : EI := fun L => (ev L).bind fun p => (eb p.2).bind fun r => match p.1, r.1 with
  | .int i, .int j => if (-(2 ^ 62) ≤ i ∧ i < 2 ^ 62 ∧ -(2 ^ 62) ≤ j ∧ j < 2 ^ 62) then some ((List.range (j - i).toNat).map fun (k : Nat) => D.int (i + k), r.2) else none
  | _, _ => none
theorem ji_range2 (hg : Γ.nm.lookup ("range" : Str) = some .globalImplicit) (hb : ("range" : Str) ∈ Γ.bi) (h : JE Γ e ev) (h2 : JE Γ e2 eb) : JI Γ tg (.Call (.Name "range" p1) [e, e2] [] pos) (itR2 ev eb) := by
  refine ⟨fun X F => pi_mono (pi_range2 (F.gl _ hg) (F.bi _ hb) (pa_cons (h.run X F) (pa_cons (h2.run X F) pa_nil (h2.ns _ _)) (h.ns _ _)) (by rw [h.ns, h2.ns]; rfl) (h2.ns _ _)) fun σ H R hq => ?_⟩
  obtain ⟨B, L, ds, L', Rr, e1, q⟩ := hq
  obtain ⟨⟨d1, L1⟩, k1, e1⟩ := Option.bind_eq_some_iff.mp e1
  obtain ⟨⟨d2, L2⟩, k2, e1⟩ := Option.bind_eq_some_iff.mp e1
  refine ⟨B, L, _, _, Rr, k1, fun v H1 R1 s1 l1 r1 => ⟨B, L1, _, _, R1, k2, fun u H2 R2 s2 l2 r2 => ?_⟩⟩
  cases d1 with
  | int i =>
    cases d2 with
    | int j =>
      have e1 : (if (-(2 ^ 62) ≤ i ∧ i < 2 ^ 62 ∧ -(2 ^ 62) ≤ j ∧ j < 2 ^ 62) then some ((List.range (j - i).toNat).map fun (k : Nat) => D.int (i + k), L2) else none) = some (ds, L') := e1
      split at e1
      · rename_i hj
        cases e1
        exact ⟨i, j, by rw [r1.int_of, r2.int_of], hj, q _ H2 R2 (s1.trans l1 s2) (l1.trans l2) (wlk_rng i _)⟩
      · cases e1
    | _ => cases e1
  | _ => cases e1
def itEn (ev : EV) : EI := fun L => match ev L with
  | some (.lst xs, L') => some ((xs.zipIdx).map fun p => D.tup [.int (p.2 : Nat), p.1], L')
  | some (.scr ns, L') => some (((ns.map D.int).zipIdx).map fun p => D.tup [.int (p.2 : Nat), p.1], L')
  | _ => none
theorem ji_enum (hg : Γ.nm.lookup ("enumerate" : Str) = some .globalImplicit) (hb : ("enumerate" : Str) ∈ Γ.bi) (h : JE Γ e ev) : JI Γ (.Tuple elts kk tpos) (.Call (.Name "enumerate" p1) [e] [] pos) (itEn ev) := by
  refine ⟨fun X F => pi_mono (pi_enum (F.gl _ hg) (F.bi _ hb) (pa_cons (h.run X F) pa_nil (h.ns _ _)) (h.ns _ _)) fun σ H R hq => ?_⟩
  obtain ⟨B, L, ds, L', Rr, e1, q⟩ := hq
  unfold itEn at e1
  split at e1
  · rename_i xs L1 k1
    cases e1
    refine ⟨B, L, _, _, Rr, k1, fun v H' R' s l r => ?_⟩
    cases r with
    | lst h1 h2 => exact ⟨_, _, rfl, h1.seq, q _ H' R' s l (wlk_enum (.inl h1) h2)⟩
  · rename_i ns L1 k1
    cases e1
    refine ⟨B, L, _, _, Rr, k1, fun v H' R' s l r => ?_⟩
    cases r with
    | scr h1 => exact ⟨_, _, rfl, h1.seq, q _ H' R' s l (wlk_enum (.inr h1) (.of_ints ns))⟩
  · cases e1
def itZ (ev eb : EV) : EI := fun L => (ev L).bind fun p => (eb p.2).bind fun r => match p.1, r.1 with
  | .lst xs, .lst ys => some ((xs.zip ys).map fun p => D.tup [p.1, p.2], r.2)
  | .tup xs, .tup ys => some ((xs.zip ys).map fun p => D.tup [p.1, p.2], r.2)
  | _, _ => none
theorem ji_zip (hg : Γ.nm.lookup ("zip" : Str) = some .globalImplicit) (hb : ("zip" : Str) ∈ Γ.bi) (h : JE Γ e ev) (h2 : JE Γ e2 eb) : JI Γ (.Tuple elts kk tpos) (.Call (.Name "zip" p1) [e, e2] [] pos) (itZ ev eb) := by
  refine ⟨fun X F => pi_mono (pi_zipA (F.gl _ hg) (F.bi _ hb) (pa_cons (h.run X F) (pa_cons (h2.run X F) pa_nil (h2.ns _ _)) (h.ns _ _)) (h.ns _ _) (by rw [h2.ns]; rfl)) fun σ H R hq => ?_⟩
  obtain ⟨B, L, ds, L', Rr, e1, q⟩ := hq
  obtain ⟨⟨d1, L1⟩, k1, e1⟩ := Option.bind_eq_some_iff.mp e1
  obtain ⟨⟨d2, L2⟩, k2, e1⟩ := Option.bind_eq_some_iff.mp e1
  refine ⟨B, L, _, _, Rr, k1, fun v H1 R1 s1 l1 r1 => ⟨B, L1, _, _, R1, k2, fun u H2 R2 s2 l2 r2 => ?_⟩⟩
  have r1' := r1.mo (R1.mo s2)
  cases r1' with
  | lst g1 g2 =>
    cases r2 with
    | lst g3 g4 => cases e1; exact ⟨_, _, _, _, rfl, .inl ⟨g1.seq, g3.seq, q _ H2 R2 (s1.trans l1 s2) (l1.trans l2) (wlk_zipL (.inl g1) g2 (.inl g3) g4)⟩⟩
    | _ => cases e1
  | tup g1 g2 =>
    cases r2 with
    | tup g3 g4 => cases e1; exact ⟨_, _, _, _, rfl, .inr ⟨g1, g3, q _ H2 R2 (s1.trans l1 s2) (l1.trans l2) (wlk_zipT g1 g2 g3 g4)⟩⟩
    | _ => cases e1
  | _ => cases e1

/-! ### for -/
def forD (g : GV) (body : SV) : List D → SV
  | [], L => some (.nx L)
  | d :: ds, L => (g d L).bind fun L1 => (body L1).bind fun o => match o with
    | .nx L2 => forD g body ds L2
    | .ct L2 => forD g body ds L2
    | .bk L2 => some (.nx L2)
    | .rt r L2 => some (.rt r L2)
def sFor (it : EI) (g : GV) (body : SV) : SV := fun L => (it L).bind fun p => forD g body p.1 p.2
theorem jst_for {it : EI} {g : GV} {ts : List Nat} {body : List Stmt} {sv : SV} (hi : JI Γ tg e it) (hg : JG1 Γ tg ts g) (hb : JSs Γ body sv) (hs : ∀ (env : PySem.Env) x, foldedSetIterable e env x = pure x) : JSt Γ (.For tg e body [] pos) (sFor it g sv) := by
  refine ⟨fun X F => ps_mono (ps_for (by rw [F.xe]; exact PassesOwn.never) F.calm (hi.run X F) (hg.run X F) (hb.run X F) (hs _)) fun D σ H h => ?_⟩
  obtain ⟨B, L, o, R, e, ok⟩ := h
  obtain ⟨⟨ds, L1⟩, k1, e⟩ := Option.bind_eq_some_iff.mp e
  refine ⟨B, L, ds, L1, R, k1, fun J H1 R1 s1 l1 wk => ?_⟩
  have m1 : Mo H H1 := R.mo s1
  refine ⟨fun i m σ' H' => i + m = ds.length ∧ Mo H1 H' ∧ ∃ Li, Rep X.K B Li σ' H' ∧ forD g sv (ds.drop i) Li = some o, ⟨ds.length, by omega, .refl _, L1, R1, e⟩, fun i m σ' H' hW => ?_⟩
  obtain ⟨him, mo, Li, Ri, ei⟩ := hW
  obtain ⟨w1, w2⟩ := wk i H' mo
  by_cases hlt : i < ds.length
  · have hd : ds[i]? = some ds[i] := List.getElem?_eq_getElem hlt
    obtain ⟨go, yl⟩ := w1 _ hd
    rw [List.drop_eq_getElem_cons hlt] at ei
    obtain ⟨Lg, k2, ei⟩ := Option.bind_eq_some_iff.mp ei
    obtain ⟨ob, k3, ei⟩ := Option.bind_eq_some_iff.mp ei
    refine .inr ⟨go, fun σ2 H2 => Mo H1 H2 ∧ ∃ L2, Rep X.K B L2 σ2 H2 ∧ forD g sv (ds.drop (i + 1)) L2 = some o, fun σ2 H2 hN => ⟨m - 1, by omega, by omega, hN.1, hN.2⟩, fun x H2 y => ?_⟩
    obtain ⟨sm, rx⟩ := yl x H2 y
    refine ⟨B, Li, _, Lg, Ri.grow sm, rx, k2, fun σ2 R2 _ => ⟨B, Lg, ob, R2, k3, ?_⟩⟩
    have mo2 : Mo H1 H2 := mo.trans (Mo.of sm)
    cases ob with
    | nx L2 => exact fun σ3 H3 R3 m3 => ⟨mo2.trans m3, L2, R3, ei⟩
    | ct L2 => exact fun σ3 H3 R3 m3 => ⟨mo2.trans m3, L2, R3, ei⟩
    | bk L2 => cases ei; exact fun σ3 H3 R3 m3 => ok σ3 H3 R3 ((m1.trans mo2).trans m3)
    | rt r L2 => cases ei; exact fun v σ3 H3 R3 m3 hr => ok v σ3 H3 R3 ((m1.trans mo2).trans m3) hr
  · rw [List.drop_eq_nil_of_le (by omega)] at ei
    cases ei
    exact .inl ⟨w2 (by omega), ok σ' H' Ri (m1.trans mo)⟩

/-! ### while -/
def whN (tc : ET) (body : SV) : Nat → SV
  | 0, _ => none
  | n + 1, L => (tc L).bind fun p => if p.1 = true then (body p.2).bind fun o => match o with
      | .nx L2 => whN tc body n L2
      | .ct L2 => whN tc body n L2
      | .bk L2 => some (.nx L2)
      | .rt r L2 => some (.rt r L2)
    else some (.nx p.2)
theorem jst_while {tc : ET} {body : List Stmt} {sv : SV} (n : Nat) (hc : JT Γ c tc) (hb : JSs Γ body sv) : JSt Γ (.While c body [] pos) (whN tc sv n) := by
  refine ⟨fun X F => ps_mono (ps_while (by rw [F.xe]; exact PassesOwn.never) (hc.run X F) (hb.run X F)) fun D σ H h => ?_⟩
  obtain ⟨B, L, o, R, e, ok⟩ := h
  refine ⟨fun m σ' H' => Mo H H' ∧ ∃ Li, Rep X.K B Li σ' H' ∧ whN tc sv m Li = some o, ⟨n, .refl _, L, R, e⟩, fun m σ' H' hW => ?_⟩
  obtain ⟨mo, Li, Ri, ei⟩ := hW
  cases m with
  | zero => cases ei
  | succ m =>
    obtain ⟨⟨b, L1⟩, k1, ei⟩ := Option.bind_eq_some_iff.mp ei
    refine ⟨B, Li, b, L1, Ri, k1, fun H1 R1 s1 l1 => ?_⟩
    have mo1 := mo.trans (Ri.mo s1)
    cases b with
    | false =>
      refine iteF ?_
      cases ei
      exact ok σ' H1 R1 mo1
    | true =>
      refine iteT ?_
      obtain ⟨ob, k3, ei⟩ := Option.bind_eq_some_iff.mp (show (sv L1).bind _ = some o from ei)
      refine ⟨fun σ2 H2 => Mo H H2 ∧ ∃ L2, Rep X.K B L2 σ2 H2 ∧ whN tc sv m L2 = some o, fun σ2 H2 hN => ⟨m, by omega, hN⟩, B, L1, ob, R1, k3, ?_⟩
      cases ob with
      | nx L2 => exact fun σ3 H3 R3 m3 => ⟨mo1.trans m3, L2, R3, ei⟩
      | ct L2 => exact fun σ3 H3 R3 m3 => ⟨mo1.trans m3, L2, R3, ei⟩
      | bk L2 => cases ei; exact fun σ3 H3 R3 m3 => ok σ3 H3 R3 (mo1.trans m3)
      | rt r L2 => cases ei; exact fun v σ3 H3 R3 m3 hr => ok v σ3 H3 R3 (mo1.trans m3) hr
/-- .. without a bound told -/
noncomputable def sWh (tc : ET) (body : SV) : SV := fun L => open Classical in if h : ∃ n o, whN tc body n L = some o then whN tc body h.choose L else none
theorem whN_mono {tc : ET} {body : SV} : ∀ (n : Nat) {L : Env} {o : Out} (m : Nat), whN tc body n L = some o → n ≤ m → whN tc body m L = some o
  | 0, _, _, _, h, _ => by cases h
  | n + 1, L, o, 0, _, hm => absurd hm (by omega)
  | n + 1, L, o, m + 1, h, hm => by
    unfold whN at h ⊢
    obtain ⟨⟨b, L1⟩, k1, h⟩ := Option.bind_eq_some_iff.mp h
    rw [k1, Option.bind_some]
    cases b with
    | false => exact h
    | true =>
      obtain ⟨ob, k3, h⟩ := Option.bind_eq_some_iff.mp (show (body L1).bind _ = some o from h)
      show (body L1).bind _ = some o
      rw [k3, Option.bind_some]
      cases ob with
      | nx L2 => exact whN_mono n m h (by omega)
      | ct L2 => exact whN_mono n m h (by omega)
      | bk L2 => exact h
      | rt r L2 => exact h
theorem sWh_of {tc : ET} {body : SV} {L : Env} {o : Out} (n : Nat) (h : whN tc body n L = some o) : sWh tc body L = some o := by
  have ex : ∃ n o, whN tc body n L = some o := ⟨n, o, h⟩
  unfold sWh
  rw [dif_pos ex]
  obtain ⟨o', h'⟩ := ex.choose_spec
  have a := whN_mono _ (max n ex.choose) h (Nat.le_max_left _ _)
  have b := whN_mono _ (max n ex.choose) h' (Nat.le_max_right _ _)
  rw [a] at b
  rw [h']
  exact b.symm
theorem jst_wh {tc : ET} {body : List Stmt} {sv : SV} (hc : JT Γ c tc) (hb : JSs Γ body sv) : JSt Γ (.While c body [] pos) (sWh tc sv) := by
  refine ⟨fun X F => ps_mono (ps_while (by rw [F.xe]; exact PassesOwn.never) (hc.run X F) (hb.run X F)) fun D σ H h => ?_⟩
  obtain ⟨B, L, o, R, e, ok⟩ := h
  have ex : ∃ n, whN tc sv n L = some o := by
    unfold sWh at e
    split at e
    · exact ⟨_, e⟩
    · cases e
  obtain ⟨n, e⟩ := ex
  refine ⟨fun m σ' H' => Mo H H' ∧ ∃ Li, Rep X.K B Li σ' H' ∧ whN tc sv m Li = some o, ⟨n, .refl _, L, R, e⟩, fun m σ' H' hW => ?_⟩
  obtain ⟨mo, Li, Ri, ei⟩ := hW
  cases m with
  | zero => cases ei
  | succ m =>
    obtain ⟨⟨b, L1⟩, k1, ei⟩ := Option.bind_eq_some_iff.mp ei
    refine ⟨B, Li, b, L1, Ri, k1, fun H1 R1 s1 l1 => ?_⟩
    have mo1 := mo.trans (Ri.mo s1)
    cases b with
    | false =>
      refine iteF ?_
      cases ei
      exact ok σ' H1 R1 mo1
    | true =>
      refine iteT ?_
      obtain ⟨ob, k3, ei⟩ := Option.bind_eq_some_iff.mp (show (sv L1).bind _ = some o from ei)
      refine ⟨fun σ2 H2 => Mo H H2 ∧ ∃ L2, Rep X.K B L2 σ2 H2 ∧ whN tc sv m L2 = some o, fun σ2 H2 hN => ⟨m, by omega, hN⟩, B, L1, ob, R1, k3, ?_⟩
      cases ob with
      | nx L2 => exact fun σ3 H3 R3 m3 => ⟨mo1.trans m3, L2, R3, ei⟩
      | ct L2 => exact fun σ3 H3 R3 m3 => ⟨mo1.trans m3, L2, R3, ei⟩
      | bk L2 => cases ei; exact fun σ3 H3 R3 m3 => ok σ3 H3 R3 (mo1.trans m3)
      | rt r L2 => cases ei; exact fun v σ3 H3 R3 m3 hr => ok v σ3 H3 R3 (mo1.trans m3) hr
end
end DD

end
section
set_option Elab.async false
set_option linter.all false
set_option maxRecDepth 100000
set_option maxHeartbeats 1000000
/-! D5e: list comprehensions. -/
namespace DD
open PySem PySem.Spec PyProof.Rows L2 RZ

def wipeE (L : Env) : List Nat → Env
  | [] => L
  | v :: vs => (wipeE L vs).set v .emp
def restE (Lf L1 : Env) : List Nat → Env
  | [] => Lf
  | v :: vs => (restE Lf L1 vs).set v (L1.getD v .emp)
def noPar (L : Env) (vs : List Nat) : Bool := vs.all fun v => match L[v]? with
  | some (.par _) => false
  | _ => true
theorem wipeE_length (L : Env) : ∀ vs, (wipeE L vs).length = L.length
  | [] => rfl
  | v :: vs => by unfold wipeE; rw [List.length_set, wipeE_length L vs]
theorem restE_length (Lf L1 : Env) : ∀ vs, (restE Lf L1 vs).length = Lf.length
  | [] => rfl
  | v :: vs => by unfold restE; rw [List.length_set, restE_length Lf L1 vs]
theorem wipeE_get {L : Env} {i : Nat} : ∀ {vs : List Nat}, (wipeE L vs)[i]? = if i ∈ vs ∧ i < L.length then some .emp else L[i]?
  | [] => by simp [wipeE]
  | v :: vs => by
    unfold wipeE
    by_cases e : v = i
    · subst e
      by_cases hv : v < L.length
      · rw [List.getElem?_set_self (by rw [wipeE_length]; exact hv), if_pos ⟨List.mem_cons_self, hv⟩]
      · rw [List.getElem?_eq_none (by rw [List.length_set, wipeE_length]; omega), if_neg (by omega), List.getElem?_eq_none (by omega)]
    · rw [List.getElem?_set_ne e, wipeE_get]
      by_cases h : i ∈ vs ∧ i < L.length
      · rw [if_pos h, if_pos ⟨List.mem_cons_of_mem _ h.1, h.2⟩]
      · rw [if_neg h, if_neg]
        rintro ⟨h1, h2⟩
        rcases List.mem_cons.mp h1 with z | z
        · exact e z.symm
        · exact h ⟨z, h2⟩
theorem restE_get {Lf L1 : Env} {i : Nat} (hl : Lf.length = L1.length) : ∀ {vs : List Nat}, (restE Lf L1 vs)[i]? = if i ∈ vs then L1[i]? else Lf[i]?
  | [] => by simp [restE]
  | v :: vs => by
    unfold restE
    by_cases e : v = i
    · subst e
      rw [if_pos List.mem_cons_self]
      by_cases hv : v < Lf.length
      · rw [List.getElem?_set_self (by rw [restE_length]; exact hv), List.getD_eq_getElem?_getD, List.getElem?_eq_getElem (by omega)]; rfl
      · rw [List.getElem?_eq_none (by rw [List.length_set, restE_length]; omega), List.getElem?_eq_none (by omega)]
    · rw [List.getElem?_set_ne e, restE_get hl]
      by_cases h : i ∈ vs
      · rw [if_pos h, if_pos (List.mem_cons_of_mem _ h)]
      · rw [if_neg h, if_neg]
        intro h1
        rcases List.mem_cons.mp h1 with z | z
        · exact e z.symm
        · exact h z
def NP (B : Bs) (vs : List Nat) : Prop := ∀ v ∈ vs, ∀ a, (v, a) ∉ B.p
section
variable {K : PySem.W.Frag} {B : Bs} {L L1 Lf : Env} {σ : St} {H H1 H' : Hp} {vs : List Nat}
theorem Rep.np (R : Rep K B L σ H) (h : noPar L vs = true) : NP B vs := fun v hv a hp => by
  obtain ⟨⟨c, e⟩, _⟩ := R.pars v a hp
  have := List.all_eq_true.mp h v hv
  rw [e] at this
  cases this
theorem Rep.wiped (R : Rep K B L σ H) (np : NP B vs) : Rep K B (wipeE L vs) (wipe σ vs) H := by
  refine ⟨by rw [wipeE_length, wipe_length]; exact R.len, R.base, fun i s o h1 h2 => ?_, fun i j s t a h1 h2 h3 h4 h5 h6 => ?_, fun i a h => ?_⟩
  · rw [wipeE_get] at h1
    rw [wipe_get] at h2
    by_cases z : i ∈ vs ∧ i < L.length
    · rw [if_pos z] at h1; cases h1; trivial
    · rw [if_neg z] at h1
      rw [if_neg (by rw [← R.len]; exact z)] at h2
      exact R.slot i s o h1 h2
  · have old : ∀ {i : Nat} {s : Slot}, (wipeE L vs)[i]? = some s → s.live = true → L[i]? = some s ∧ ¬ (i ∈ vs ∧ i < L.length) := fun {i s} h l => by
      rw [wipeE_get] at h
      by_cases z : i ∈ vs ∧ i < L.length
      · rw [if_pos z] at h; cases h; cases l
      · rw [if_neg z] at h; exact ⟨h, z⟩
    obtain ⟨g1, g2⟩ := old h1 h3
    obtain ⟨g3, g4⟩ := old h2 h4
    rw [wipe_get, if_neg (by rw [← R.len]; exact g2)] at h5
    rw [wipe_get, if_neg (by rw [← R.len]; exact g4)] at h6
    exact R.inj i j s t a g1 g3 h3 h4 h5 h6
  · obtain ⟨⟨c, h1⟩, h2⟩ := R.pars i a h
    have z : ¬ (i ∈ vs ∧ i < L.length) := fun z => np i z.1 a h
    exact ⟨⟨c, by rw [wipeE_get, if_neg z]; exact h1⟩, by rw [wipe_get, if_neg (by rw [← R.len]; exact z)]; exact h2⟩
theorem live_wipe (hlen : L.length = σ.length) {p : Addr} (h : Live (wipeE L vs) (wipe σ vs) p) : Live L σ p := by
  obtain ⟨j, s, h1, h2, h3⟩ := h
  rw [wipeE_get] at h1
  by_cases z : j ∈ vs ∧ j < L.length
  · rw [if_pos z] at h1; cases h1; cases h2
  · rw [if_neg z] at h1
    rw [wipe_get, if_neg (by rw [← hlen]; exact z)] at h3
    exact ⟨j, s, h1, h2, h3⟩
theorem lsub_wipe (ls : LSub L L1) : LSub L (wipeE L1 vs) := fun j s h1 h2 => by
  rw [wipeE_get] at h1
  by_cases z : j ∈ vs ∧ j < L1.length
  · rw [if_pos z] at h1; cases h1; cases h2
  · rw [if_neg z] at h1; exact ls j s h1 h2
theorem lsub_wipe2 (ls : LSub (wipeE L vs) L1) : LSub (wipeE L vs) (wipeE L1 vs) := lsub_wipe ls
/-- the block is left -/
theorem Rep.restore (R : Rep K B L1 σ H1) (Rf : Rep K B Lf (wipe σ vs) H') (np : NP B vs) (st : Stp (wipeE L1 vs) (wipe σ vs) H1 H') (ls : LSub (wipeE L1 vs) Lf) (nv : ∀ (j : Nat) (s : Slot), j ∈ vs → Lf[j]? = some s → s.live = false) :
    Rep K B (restE Lf L1 vs) σ H' ∧ Stp L1 σ H1 H' ∧ LSub L1 (restE Lf L1 vs) := by
  have hlen : Lf.length = L1.length := by rw [Rf.len, wipe_length, ← R.len]
  have mo : Mo H1 H' := (R.wiped np).mo st
  have l1 : L1.length = σ.length := R.len
  have kept : ∀ b o, H1 b = some o → ¬ Live (wipeE L1 vs) (wipe σ vs) b → H' b = some o := st.keep
  -- a live slot of the block lies as ahead of it
  have lvf : ∀ {j : Nat} {s : Slot}, j ∉ vs → Lf[j]? = some s → s.live = true → ∃ t, L1[j]? = some t ∧ t.live = true := fun {j s} hj h l => by
    obtain ⟨t, h1, h2⟩ := ls j s h l
    rw [wipeE_get, if_neg (fun z => hj z.1)] at h1
    exact ⟨t, h1, h2⟩
  have get : ∀ {j : Nat} {s : Slot}, (restE Lf L1 vs)[j]? = some s → (j ∈ vs ∧ L1[j]? = some s) ∨ (j ∉ vs ∧ Lf[j]? = some s) := fun {j s} h => by
    rw [restE_get hlen] at h
    by_cases z : j ∈ vs
    · rw [if_pos z] at h; exact .inl ⟨z, h⟩
    · rw [if_neg z] at h; exact .inr ⟨z, h⟩
  have lvr : ∀ {j : Nat} {s : Slot}, (restE Lf L1 vs)[j]? = some s → s.live = true → ∃ t, L1[j]? = some t ∧ t.live = true := fun {j s} h l => by
    rcases get h with ⟨_, h1⟩ | ⟨hj, h1⟩
    · exact ⟨s, h1, l⟩
    · exact lvf hj h1 l
  have wg : ∀ {j : Nat}, j ∉ vs → (wipe σ vs)[j]? = σ[j]? := fun {j} hj => by rw [wipe_get, if_neg fun z => hj z.1]
  refine ⟨⟨by rw [restE_length, hlen]; exact R.len, Rf.base, fun i s o h1 h2 => ?_, fun i j s t a h1 h2 h3 h4 h5 h6 => ?_, fun i a h => ?_⟩, ⟨fun b o hb hn => kept b o hb fun z => hn (live_wipe l1 z), st.dom⟩, fun j s h1 h2 => lvr h1 h2⟩
  · rcases get h1 with ⟨hi, g⟩ | ⟨hi, g⟩
    · have q := R.slot i s o g h2
      have hid : ∀ (a : Addr), s.live = true → σ[i]? = some (some (.ref a)) → ¬ Live (wipeE L1 vs) (wipe σ vs) a := fun a hl hs hz => by
        obtain ⟨j, t, e1, e2, e3⟩ := hz
        rw [wipeE_get] at e1
        by_cases z : j ∈ vs ∧ j < L1.length
        · rw [if_pos z] at e1; cases e1; cases e2
        · rw [if_neg z] at e1
          rw [wipe_get, if_neg (by rw [← l1]; exact z)] at e3
          have : j = i := R.inj j i t s a e1 g e2 hl e3 hs
          subst this
          exact z ⟨hi, (List.getElem?_eq_some_iff.mp e1).1⟩
      cases s with
      | emp => trivial
      | val d => obtain ⟨v, e, r⟩ := q; exact ⟨v, e, r.mo mo⟩
      | liv c =>
        obtain ⟨a, e, nb, r⟩ := q
        obtain ⟨u, eu, _⟩ := r.some
        subst e
        exact ⟨a, rfl, nb, r.at mo (by rw [kept a u eu (hid a rfl h2), eu])⟩
      | par c =>
        obtain ⟨a, e, hp, r⟩ := q
        exact absurd hp (np i hi a)
    · exact Rf.slot i s o g (by rw [wg hi]; exact h2)
  · obtain ⟨s', e1, e2⟩ := lvr h1 h3
    obtain ⟨t', e3, e4⟩ := lvr h2 h4
    exact R.inj i j s' t' a e1 e3 e2 e4 h5 h6
  · have hi : i ∉ vs := fun z => np i z a h
    obtain ⟨⟨c, g1⟩, g2⟩ := Rf.pars i a h
    rw [wg hi] at g2
    exact ⟨⟨c, by rw [restE_get hlen, if_neg hi]; exact g1⟩, g2⟩
end

def lcD (g : GV) (tt : ET) (elt : EV) (vs : List Nat) : List D → Env → Option (List D × Env)
  | [], L => some ([], L)
  | d :: ds, L => (g d L).bind fun L1 => (tt L1).bind fun p => if p.1 = true then (elt p.2).bind fun q => (lcD g tt elt vs ds (wipeE q.2 vs)).map fun r => (q.1 :: r.1, r.2) else lcD g tt elt vs ds (wipeE p.2 vs)
def oLc (it : EI) (g : GV) (tt : ET) (elt : EV) (vs : List Nat) : EO := fun L => (it L).bind fun p => if (noPar p.2 vs && decide (p.1.length ≤ 100000)) = true then (lcD g tt elt vs p.1 (wipeE p.2 vs)).map fun r => (.l r.1, restE r.2 p.2 vs) else none
theorem lcD_wiped {g : GV} {tt : ET} {elt : EV} {vs : List Nat} {L0 : Env} : ∀ {ds : List D} {L Lf : Env} {rs : List D}, (∀ (j : Nat) (s : Slot), j ∈ vs → L[j]? = some s → s.live = false) → lcD g tt elt vs ds L = some (rs, Lf) → ∀ (j : Nat) (s : Slot), j ∈ vs → Lf[j]? = some s → s.live = false
  | [], L, Lf, rs, h, e => by cases e; exact h
  | d :: ds, L, Lf, rs, h, e => by
    obtain ⟨L1, _, e⟩ := Option.bind_eq_some_iff.mp e
    obtain ⟨⟨b, L2⟩, _, e⟩ := Option.bind_eq_some_iff.mp e
    have w : ∀ L : Env, ∀ (j : Nat) (s : Slot), j ∈ vs → (wipeE L vs)[j]? = some s → s.live = false := fun L j s hj hs => by
      rw [wipeE_get] at hs
      by_cases z : j ∈ vs ∧ j < L.length
      · rw [if_pos z] at hs; cases hs; rfl
      · rw [if_neg z] at hs
        exact absurd ⟨hj, (List.getElem?_eq_some_iff.mp hs).1⟩ z
    split at e
    · obtain ⟨⟨y, L3⟩, _, e⟩ := Option.bind_eq_some_iff.mp e
      obtain ⟨⟨r, L4⟩, k, e⟩ := Option.map_eq_some_iff.mp e
      cases e
      exact lcD_wiped (L0 := L0) (w _) k
    · exact lcD_wiped (L0 := L0) (w _) e
theorem wipe_wipe {σ : St} {vs : List Nat} : wipe (wipe σ vs) vs = wipe σ vs := by
  refine List.ext_getElem? fun j => ?_
  rw [wipe_get, wipe_get, wipe_length]
  by_cases z : j ∈ vs ∧ j < σ.length
  · rw [if_pos z, if_pos z]
  · rw [if_neg z]
theorem lc_ok {K : PySem.W.Frag} {it : EI} {g : GV} {tt : ET} {elt : EV} {vs ts : List Nat} (hts : ∀ t ∈ ts, t ∈ vs) {σ : St} {H : Hp} {Q : VK} (h : tO K (oLc it g tt elt vs) σ H Q) : tLc (tI K it) (gT K ts g) (tT K tt) (tV K elt) vs σ H Q := by
  obtain ⟨B, L, c, L', R, e, q⟩ := h
  obtain ⟨⟨ds, L1⟩, k1, e⟩ := Option.bind_eq_some_iff.mp e
  split at e
  · rename_i hchk
    obtain ⟨⟨res, Lf⟩, k2, e⟩ := Option.map_eq_some_iff.mp e
    cases e
    rw [Bool.and_eq_true, decide_eq_true_eq] at hchk
    obtain ⟨hnp, hsz⟩ := hchk
    have hsz : ds.length ≤ 100000 := hsz
    refine ⟨B, L, ds, L1, R, k1, fun J H1 R1 s1 l1 wk Dl hD => ?_⟩
    have np := R1.np hnp
    have Rw := R1.wiped np
    have hl1 : L1.length = σ.length := R1.len
    have nlD : ∀ {L2 : Env}, LSub (wipeE L1 vs) L2 → ¬ Live L2 (wipe σ vs) Dl := fun ls => Rw.newNotLive hD ls
    have nwp : ∀ (j : Nat) (s : Slot), j ∈ vs → (wipeE L1 vs)[j]? = some s → s.live = false := fun j s hj hs => by
      rw [wipeE_get] at hs
      by_cases z : j ∈ vs ∧ j < L1.length
      · rw [if_pos z] at hs; cases hs; rfl
      · rw [if_neg z] at hs
        exact absurd ⟨hj, (List.getElem?_eq_some_iff.mp hs).1⟩ z
    have nvf := lcD_wiped (L0 := L1) nwp k2
    have nbD : B.H Dl = none := R1.fresh hD
    -- the heap with the new list in it
    refine ⟨fun i m Hi => i + m = ds.length ∧ Stp (wipeE L1 vs) (wipe σ vs) H1 Hi ∧ ∃ Li acc vacc rest, Rep K B Li (wipe σ vs) Hi ∧ LSub (wipeE L1 vs) Li ∧ lcD g tt elt vs (ds.drop i) Li = some (rest, Lf) ∧ acc ++ rest = res ∧ Hi Dl = some (.lst vacc) ∧ RpA K Hi vacc acc ∧ acc.length ≤ i,
      ⟨ds.length, by omega, .of_same (Same.new hD), _, [], [], res, Rw.grow (Same.new hD), .refl _, k2, rfl, upd_same, .nil, Nat.zero_le _⟩, fun i m Hi hW => ?_⟩
    obtain ⟨him, st, Li, acc, vacc, rest, Ri, ls, ei, er, eD, rA, hacc⟩ := hW
    have mo : Mo H1 Hi := Rw.mo st
    obtain ⟨w1, w2⟩ := wk i Hi mo
    by_cases hlt : i < ds.length
    · have hd : ds[i]? = some ds[i] := List.getElem?_eq_getElem hlt
      obtain ⟨go, yl⟩ := w1 _ hd
      rw [List.drop_eq_getElem_cons hlt] at ei
      obtain ⟨Lg, k3, ei⟩ := Option.bind_eq_some_iff.mp ei
      obtain ⟨⟨b, Lt⟩, k4, ei⟩ := Option.bind_eq_some_iff.mp ei
      refine .inr ⟨go, fun Hn => Stp (wipeE L1 vs) (wipe σ vs) H1 Hn ∧ ∃ Li acc vacc rest, Rep K B Li (wipe σ vs) Hn ∧ LSub (wipeE L1 vs) Li ∧ lcD g tt elt vs (ds.drop (i + 1)) Li = some (rest, Lf) ∧ acc ++ rest = res ∧ Hn Dl = some (.lst vacc) ∧ RpA K Hn vacc acc ∧ acc.length ≤ i + 1,
        fun Hn hN => ⟨m - 1, by omega, by omega, hN⟩, fun x H2 y => ?_⟩
      obtain ⟨sm, rx⟩ := yl x H2 y
      refine ⟨B, Li, _, Lg, Ri.grow sm, rx, k3, fun σ2 R2 gk => ⟨(gk.wp vs hts).trans wipe_wipe, ?_⟩⟩
      · refine ⟨B, Lg, b, Lt, R2, k4, fun H3 R3 s3 l3 => ?_⟩
        have wps : wipe σ2 vs = wipe σ vs := (gk.wp vs hts).trans wipe_wipe
        have lsg : LSub (wipeE L1 vs) Lg := ls.trans gk.ls
        have lvg : ∀ p, Live Lg σ2 p → Live (wipeE L1 vs) (wipe σ vs) p := fun p hp => (gk.lv p hp).sub ls
        have st2 : Stp (wipeE L1 vs) (wipe σ vs) H1 H2 := ⟨fun b o hb hn => sm _ _ (st.keep b o hb hn), fun b hb => st.dom b (sm.free hb)⟩
        have st3 : Stp (wipeE L1 vs) (wipe σ vs) H1 H3 := ⟨fun b o hb hn => s3.keep b o (st2.keep b o hb hn) fun z => hn (lvg b z), fun b hb => st2.dom b (s3.dom b hb)⟩
        have nlg : ¬ Live Lg σ2 Dl := fun z => nlD (.refl _) (lvg Dl z)
        have eD2 : H2 Dl = some (.lst vacc) := sm _ _ eD
        have eD3 : H3 Dl = some (.lst vacc) := s3.keep _ _ eD2 nlg
        have mo23 : Mo H2 H3 := R2.mo s3
        have rA3 : RpA K H3 vacc acc := (rA.mo (Mo.of sm)).mo mo23
        cases b with
        | false =>
          refine iteF ?_
          have ei : lcD g tt elt vs (ds.drop (i + 1)) (wipeE Lt vs) = some (rest, Lf) := ei
          refine ⟨st3, wipeE Lt vs, acc, vacc, rest, ?_, lsub_wipe (lsg.trans l3), ei, er, eD3, rA3, by omega⟩
          rw [← wps]
          exact R3.wiped np
        | true =>
          refine iteT ?_
          obtain ⟨⟨dy, Le⟩, k5, ei⟩ := Option.bind_eq_some_iff.mp (show (elt Lt).bind (fun q => (lcD g tt elt vs (ds.drop (i + 1)) (wipeE q.2 vs)).map fun r => (q.1 :: r.1, r.2)) = some (rest, Lf) from ei)
          obtain ⟨⟨r', Lr⟩, k6, ei⟩ := Option.map_eq_some_iff.mp ei
          cases ei
          refine ⟨B, Lt, dy, Le, R3, k5, fun yv H4 R4 s4 l4 ry => ?_⟩
          have nlt : ¬ Live Lt σ2 Dl := fun z => nlg (z.sub l3)
          have eD4 : H4 Dl = some (.lst vacc) := s4.keep _ _ eD3 nlt
          have st4 : Stp (wipeE L1 vs) (wipe σ vs) H1 H4 := ⟨fun b o hb hn => s4.keep b o (st3.keep b o hb hn) fun z => hn (lvg b (z.sub l3)), fun b hb => st3.dom b (s4.dom b hb)⟩
          have kp : ∀ b o, H4 b = some o → b ≠ Dl → upd H4 Dl (.lst (vacc ++ [yv])) b = some o := fun b o hb hn => by rw [upd_ne hn]; exact hb
          have rA4 : RpA K H4 vacc acc := rA3.mo (R3.mo s4)
          have cD : CRp K H4 Dl (.l acc) := ⟨vacc, eD4, rA4⟩
          have mo5 : Mo H4 (upd H4 Dl (.lst (vacc ++ [yv]))) := crp_mo cD kp
          have rA5 : RpA K (upd H4 Dl (.lst (vacc ++ [yv]))) (vacc ++ [yv]) (acc ++ [dy]) := (rA4.append (.cons ry .nil)).mo mo5
          have nle : ¬ Live Le σ2 Dl := fun z => nlt (z.sub l4)
          have R5 : Rep K B Le σ2 (upd H4 Dl (.lst (vacc ++ [yv]))) := R4.other (c := .l acc) (c' := .l (acc ++ [dy])) nle nbD cD kp ⟨_, upd_same, rA5⟩
          refine ⟨vacc, eD4, ?_, ?_, wipeE Le vs, acc ++ [dy], vacc ++ [yv], r', ?_, lsub_wipe ((lsg.trans l3).trans l4), k6, by rw [← er, List.append_assoc]; rfl, upd_same, rA5, by rw [List.length_append]; show acc.length + 1 ≤ i + 1; omega⟩
          · rw [rA4.length]
            exact Nat.lt_of_le_of_lt (by omega : acc.length ≤ 100000) (by decide)
          · refine ⟨fun b o hb hn => ?_, fun b hb => st4.dom b (upd_dom hb)⟩
            rw [upd_ne]; exact st4.keep b o hb hn
            rintro rfl; rw [hD] at hb; cases hb
          · rw [← wps]
            exact R5.wiped np
    · rw [List.drop_eq_nil_of_le (by omega)] at ei
      cases ei
      refine .inl ⟨w2 (by omega), ?_⟩
      obtain ⟨f1, f2, f3⟩ := R1.restore Ri np st ls nvf
      rw [List.append_nil] at er
      subst er
      exact q Dl Hi f1 (s1.trans l1 f2) (l1.trans f3) (s1.dom _ hD) ⟨vacc, eD, rA⟩
  · cases e
end DD

end
section
set_option Elab.async false
set_option linter.all false
set_option maxRecDepth 100000
set_option maxHeartbeats 1000000
/-! D6: comprehensions in their block; a def by its body. -/
namespace DD
open PySem PySem.Spec PyProof.Rows L2 RZ
def env0 (sc : Scope) : PySem.Env := { scope := sc, locals := 0, globals := 0, cells := [] }
abbrev Gm.inn (Γ : Gm) (scope : Scope) (own : List Str) : Gm := { Γ with sc := relS scope Γ.sc, st := own }
section
variable {Γ : Gm} {pos spos py p1 p2 : Pos} {elt tg iter e : Expr} {ifs : List Expr} {scope : Scope} {own : List (Str × Nat)} {it : EI} {g : GV} {tt : ET} {ev : EV} {eo : EO} {ts : List Nat}
theorem Knows.blk {X : Cx} {s : Shared} {H : Hp} {cenv : PySem.Env} {fp : List Addr} {x : Str} {F : Fn} (h : Knows X x F) : Knows (X.blk s H scope cenv fp) x F := ⟨h.ex⟩
theorem Fits.blk {X : Cx} (F : Fits Γ X) {s : Shared} {H : Hp} {C : Addr} {cl : List (Str × Addr)} {fp : List Addr} {os : List Str} (hk : scope.kind = .function) (hst : ∀ x ∈ os, (scope.names.lookup x == some .cell) = true ∨ (relS scope Γ.sc).names.lookup x = some .local) :
    Fits (Γ.inn scope os) (X.blk s H scope (compEnvC scope cl C X.env) fp) where
  N := F.N
  nd := F.nd
  sc := by show relS scope X.env.scope = relS scope Γ.sc; rw [F.sc]
  st := hst
  bi := F.bi
  fn := fun x f h => (F.fn x f h).blk
  cn := F.cn
  calm := F.calm
  kind := hk
  xe := rfl
  un := F.un
  hd := F.hd
structure JTs (Γ : Gm) (ifs : List Expr) (tt : ET) : Prop where
  run : ∀ X, Fits Γ X → PTs X ifs (tT X.K tt)
def etT : ET := fun L => some (true, L)
theorem pts_mono {X : Cx} {ifs : List Expr} {t t' : TT} (h : PTs X ifs t) (m : ∀ σ H Q, t' σ H Q → t σ H Q) : PTs X ifs t' := ⟨fun pins s σ H Q I q => h.run pins s σ H Q I (m σ H Q q)⟩
theorem jts_nil : JTs Γ [] etT := ⟨fun X F => pts_mono pts_nil fun σ H Q h => by
  obtain ⟨B, L, b, L', R, e, q⟩ := h
  cases e
  exact q H R (.refl _ _ _) (.refl _)⟩
theorem jts_one {c : Expr} (h : JT Γ c tt) : JTs Γ [c] tt := ⟨fun X F => pts_one (h.run X F)⟩
structure LcOk (Γ : Gm) (scope : Scope) (own : List (Str × Nat)) (ts : List Nat) : Prop where
  blk : blkC Γ.N Γ.sc scope own = true
  kind : scope.kind = .function
  st : ∀ x ∈ own.map (·.1), (scope.names.lookup x == some .cell) = true ∨ (relS scope Γ.sc).names.lookup x = some .local
  ts : ∀ t ∈ ts, t ∈ own.map (·.2)
theorem LcOk.bk {X : Cx} (F : Fits Γ X) (h : LcOk Γ scope own ts) : BlkOk X.N X.env.scope scope own := blkOk_by (by rw [F.N, F.sc]; exact h.blk)
theorem jo_lc (ok : LcOk Γ scope own ts) (hi : JI Γ tg iter it) (hg : JG1 (Γ.inn scope (own.map (·.1))) tg ts g) (ht : JTs (Γ.inn scope (own.map (·.1))) ifs tt) (he : JE (Γ.inn scope (own.map (·.1))) elt ev) (hs : ∀ (env : PySem.Env) x, foldedSetIterable iter env x = pure x) :
    JO Γ (.ListComp elt [⟨tg, iter, ifs, 0⟩] scope pos) (oLc it g tt ev (own.map (·.2))) :=
  ⟨fun _ _ => rfl, fun X F => pe_mono (pe_lc (te := tV X.K ev) (tt := tT X.K tt) (g := gT X.K ts g) F.calm F.nd (hi.run X F) (ok.bk F) (fun s H C cl fp => hg.run _ (F.blk ok.kind ok.st)) (fun s H C cl fp => ht.run _ (F.blk ok.kind ok.st)) (fun s H C cl fp => he.run _ (F.blk ok.kind ok.st)) (hs _)) fun σ H Q h => lc_ok ok.ts h⟩
/-- name = [..] on one line, the name a plain local -/
theorem jst_lc {x : Str} (i : Nat) (ok : LcOk Γ scope own ts) (hi : JI Γ tg iter it) (hg : JG1 (Γ.inn scope (own.map (·.1))) tg ts g) (ht : JTs (Γ.inn scope (own.map (·.1))) ifs tt) (he : JE (Γ.inn scope (own.map (·.1))) elt ev) (hs : ∀ (env : PySem.Env) x, foldedSetIterable iter env x = pure x)
    (hN : Γ.N[i]? = some x) (hl : Γ.nm.lookup x = some .local) (hw : swapsWith (.ListComp elt [⟨tg, iter, ifs, 0⟩] scope pos) (some (.Name x py)) spos.line (env0 Γ.sc) = pure true) :
    JSt Γ (.Assign [.Name x py] (.ListComp elt [⟨tg, iter, ifs, 0⟩] scope pos) spos) (sOw i (oLc it g tt ev (own.map (·.2)))) := by
  refine ⟨fun X F => ps_mono (ps_setLc (i := i) (te := tV X.K ev) (tt := tT X.K tt) (g := gT X.K ts g) F.calm F.nd (by rw [F.N]; exact hN) (by rw [F.sc]; exact hl) ((swaps_scope (env' := env0 Γ.sc) F.sc).trans hw) (hi.run X F) (ok.bk F) (fun s H C cl fp => hg.run _ (F.blk ok.kind ok.st)) (fun s H C cl fp => ht.run _ (F.blk ok.kind ok.st)) (fun s H C cl fp => he.run _ (F.blk ok.kind ok.st)) (hs _)) fun D σ H h => ?_⟩
  obtain ⟨B, L, o, R, e, okk⟩ := h
  refine lc_ok ok.ts ?_
  obtain ⟨⟨d, L1⟩, k1, e⟩ := Option.bind_eq_some_iff.mp e
  split at e
  · rename_i hp
    cases e
    exact ⟨B, L, d, L1, R, k1, fun a H' R' s l n r => okk _ H' (R.putOwn R' l n hp r) (R.mo s)⟩
  · cases e
theorem jst_own0 {x : Str} (i : Nat) (he : JO Γ e eo) (hN : Γ.N[i]? = some x) (hl : Γ.nm.lookup x = some .local ∨ Γ.nm.lookup x = some .cell) (hs : x ∈ Γ.st) (hw : swapsWith e (some (.Name x p1)) pos.line (env0 Γ.sc) = pure false) : JSt Γ (.Assign [.Name x p1] e pos) (sOw i eo) :=
  jst_own i he hN hl hs fun env h => (swaps_scope (env' := env0 Γ.sc) h).trans hw
end

/-! ### a def -/
def startE (n : Nat) (as : List Arg) : Env := (as.map fun a => match a with
  | .v d => Slot.val d
  | .c c => Slot.par c) ++ List.replicate (n - as.length) .emp
def parIx : Nat → List Arg → List Nat
  | _, [] => []
  | i, .v _ :: r => parIx (i + 1) r
  | i, .c _ :: r => i :: parIx (i + 1) r
def csAt (L : Env) : List Nat → Option (List Cont)
  | [] => some []
  | i :: is => (slotC L i).bind fun c => (csAt L is).map (c :: ·)
def fnD (n p : Nat) (sv : SV) : Fn := fun as => if as.length = p then (sv (startE n as)).bind fun o => match o with
    | .nx L => (csAt L (parIx 0 as)).map fun cs => (.v .non, cs)
    | .rt r L => (csAt L (parIx 0 as)).map fun cs => (r, cs)
    | _ => none
  else none
section
variable {K : PySem.W.Frag} {H H' : Hp}
theorem args_at : ∀ {j : Nat} {vs : List V} {as : List Arg} {ps : List (Nat × Addr)}, ArgsOk K H j vs as ps → ∀ {i : Nat} {A : Arg}, as[i]? = some A → ∃ v, vs[i]? = some v ∧ match A with
    | .v d => Rp K H v d
    | .c c => ∃ a, v = .ref a ∧ (j + i, a) ∈ ps ∧ CRp K H a c
  | _, [], [], _, _, i, A, h => by simp at h
  | j, v :: vs, .v d :: as, ps, k, 0, A, h => by simp at h; subst h; exact ⟨v, rfl, k.1⟩
  | j, v :: vs, .v d :: as, ps, k, i + 1, A, h => by
    obtain ⟨w, h1, h2⟩ := args_at k.2 (i := i) (A := A) (by simpa using h)
    refine ⟨w, by simpa using h1, ?_⟩
    cases A with
    | v d => exact h2
    | c c => obtain ⟨a, e, m, r⟩ := h2; exact ⟨a, e, by rw [show j + (i + 1) = j + 1 + i by omega]; exact m, r⟩
  | j, v :: vs, .c c :: as, ps, k, 0, A, h => by
    obtain ⟨a, r, e, ep, hc, _⟩ := k
    simp at h; subst h
    exact ⟨v, rfl, a, e, by rw [ep]; exact List.mem_cons_self, hc⟩
  | j, v :: vs, .c c :: as, ps, k, i + 1, A, h => by
    obtain ⟨a, r, e, ep, hc, k⟩ := k
    obtain ⟨w, h1, h2⟩ := args_at k (i := i) (A := A) (by simpa using h)
    refine ⟨w, by simpa using h1, ?_⟩
    cases A with
    | v d => exact h2
    | c c => obtain ⟨a', e', m, r'⟩ := h2; exact ⟨a', e', by rw [show j + (i + 1) = j + 1 + i by omega, ep]; exact List.mem_cons_of_mem _ m, r'⟩
  | _, [], _ :: _, _, k, _, _, _ => k.elim
  | _, _ :: _, [], _, k, _, _, _ => k.elim
theorem args_par : ∀ {j : Nat} {vs : List V} {as : List Arg} {ps : List (Nat × Addr)}, ArgsOk K H j vs as ps → ∀ {n : Nat} {a : Addr}, (n, a) ∈ ps → ∃ i c, n = j + i ∧ as[i]? = some (.c c) ∧ vs[i]? = some (.ref a)
  | _, [], [], ps, k, n, a, h => by rw [show ps = [] from k] at h; cases h
  | j, v :: vs, .v d :: as, ps, k, n, a, h => by
    obtain ⟨i, c, h1, h2, h3⟩ := args_par k.2 h
    exact ⟨i + 1, c, by omega, by simpa using h2, by simpa using h3⟩
  | j, v :: vs, .c c :: as, ps, k, n, a, h => by
    obtain ⟨a', r, e, ep, hc, k⟩ := k
    rw [ep] at h
    rcases List.mem_cons.mp h with h | h
    · cases h; exact ⟨0, c, rfl, rfl, by rw [e]; rfl⟩
    · obtain ⟨i, c, h1, h2, h3⟩ := args_par k h
      exact ⟨i + 1, c, by omega, by simpa using h2, by simpa using h3⟩
  | _, [], _ :: _, _, k, _, _, _ => k.elim
  | _, _ :: _, [], _, k, _, _, _ => k.elim
theorem args_ix : ∀ {j : Nat} {vs : List V} {as : List Arg} {ps : List (Nat × Addr)}, ArgsOk K H j vs as ps → ps.map (·.1) = parIx j as
  | _, [], [], ps, k => by rw [show ps = [] from k]; rfl
  | j, v :: vs, .v d :: as, ps, k => args_ix (as := as) k.2
  | j, v :: vs, .c c :: as, ps, k => by
    obtain ⟨a', r, e, ep, hc, k⟩ := k
    rw [ep, List.map_cons, args_ix k]; rfl
  | _, [], _ :: _, _, k => k.elim
  | _, _ :: _, [], _, k => k.elim
theorem nodup_at {ps : List (Nat × Addr)} (h : (ps.map (·.2)).Nodup) {i j : Nat} {a : Addr} : (i, a) ∈ ps → (j, a) ∈ ps → i = j := by
  induction ps with
  | nil => intro h1; cases h1
  | cons p r ih =>
    intro h1 h2
    rw [List.map_cons, List.nodup_cons] at h
    rcases List.mem_cons.mp h1 with e1 | h1
    · rcases List.mem_cons.mp h2 with e2 | h2
      · rw [← e1] at e2; cases e2; rfl
      · exact absurd (List.mem_map.mpr ⟨_, h2, by rw [← e1]⟩) h.1
    · rcases List.mem_cons.mp h2 with e2 | h2
      · exact absurd (List.mem_map.mpr ⟨_, h1, by rw [← e2]⟩) h.1
      · exact ih h.2 h1 h2
theorem startE_get {n i : Nat} {as : List Arg} {s : Slot} (h : (startE n as)[i]? = some s) : (∃ A, as[i]? = some A ∧ s = match A with | .v d => Slot.val d | .c c => Slot.par c) ∨ s = .emp := by
  unfold startE at h
  rw [List.getElem?_append] at h
  split at h
  · rw [List.getElem?_map] at h
    obtain ⟨A, h1, h2⟩ := Option.map_eq_some_iff.mp h
    exact .inl ⟨A, h1, h2.symm⟩
  · rw [List.getElem?_replicate] at h
    split at h
    · cases h; exact .inr rfl
    · cases h
theorem start_get {N : List Str} {vs : List V} {i : Nat} {v : V} (h : vs[i]? = some v) : (L2.start N vs)[i]? = some (some v) := by
  unfold L2.start
  have hi := (List.getElem?_eq_some_iff.mp h).1
  rw [List.getElem?_append_left (by simpa using hi), List.getElem?_map, h]; rfl
theorem rep_start {N : List Str} {vs : List V} {as : List Arg} {ps : List (Nat × Addr)} (k : ArgsOk K H 0 vs as ps) (nd : (ps.map (·.2)).Nodup) : Rep K ⟨H, ps⟩ (startE N.length as) (L2.start N vs) H := by
  have hl := k.len
  have key : ∀ {i : Nat} {s : Slot}, (startE N.length as)[i]? = some s → s.live = true → ∃ a c, s = .par c ∧ (L2.start N vs)[i]? = some (some (.ref a)) ∧ (i, a) ∈ ps := fun {i s} h l => by
    rcases startE_get h with ⟨A, h1, rfl⟩ | rfl
    · obtain ⟨v, h2, h3⟩ := args_at k h1
      cases A with
      | v d => cases l
      | c c => obtain ⟨a, rfl, m, _⟩ := h3; exact ⟨a, c, rfl, start_get h2, by rw [Nat.zero_add] at m; exact m⟩
    · cases l
  refine ⟨?_, fun b o h _ => h, fun i s o h1 h2 => ?_, fun i j s t a h1 h2 h3 h4 h5 h6 => ?_, fun i a h => ?_⟩
  · unfold startE L2.start
    rw [List.length_append, List.length_append, List.length_map, List.length_map, List.length_replicate, List.length_replicate, hl]
  · rcases startE_get h1 with ⟨A, h3, rfl⟩ | rfl
    · obtain ⟨v, h4, h5⟩ := args_at k h3
      rw [start_get h4] at h2
      cases h2
      cases A with
      | v d => exact ⟨v, rfl, h5⟩
      | c c => obtain ⟨a, rfl, m, r⟩ := h5; exact ⟨a, rfl, by rw [Nat.zero_add] at m; exact m, r⟩
    · trivial
  · obtain ⟨a1, c1, rfl, e1, m1⟩ := key h1 h3
    obtain ⟨a2, c2, rfl, e2, m2⟩ := key h2 h4
    rw [h5] at e1; cases e1
    rw [h6] at e2; cases e2
    exact nodup_at nd m1 m2
  · obtain ⟨n, c, e, h1, h2⟩ := args_par k h
    have e : i = n := by omega
    subst e
    have hi := (List.getElem?_eq_some_iff.mp h1).1
    refine ⟨⟨c, ?_⟩, start_get h2⟩
    unfold startE
    rw [List.getElem?_append_left (by simpa using hi), List.getElem?_map, h1]; rfl
theorem cs_back {B : Bs} {L : Env} {σ : St} (R : Rep K B L σ H') : ∀ {ps : List (Nat × Addr)} {cs : List Cont}, (∀ p ∈ ps, p ∈ B.p) → csAt L (ps.map (·.1)) = some cs → CsOk K H' ps cs
  | [], cs, _, h => by cases h; trivial
  | (i, a) :: ps, cs, hp, h => by
    obtain ⟨c, h1, h⟩ := Option.bind_eq_some_iff.mp (show (slotC L i).bind (fun c => (csAt L (ps.map (·.1))).map (c :: ·)) = some cs from h)
    obtain ⟨cs', h2, h3⟩ := Option.map_eq_some_iff.mp h
    cases h3
    obtain ⟨a', s, _, _, e3, e4⟩ := slotC_of R h1
    obtain ⟨_, e5⟩ := R.pars i a (hp _ List.mem_cons_self)
    rw [e5] at e3; cases e3
    exact ⟨e4, cs_back R (fun p hq => hp p (List.mem_cons_of_mem _ hq)) h2⟩
end

/-- what is known of a def: it computes F, at level k -/
structure Kn (P : Program) (w : World) (K : PySem.W.Frag) (mg : Str → Option Value) (base : Heap) (k : Nat) (x : Str) (F : Fn) : Prop where
  ex : ∃ (f : Addr) (fd : FuncData) (ps : List Str), mg x = some (.ref f) ∧ PySem.W.keepIn K (.ref f) = true ∧ Binds K fd ps [] ∧ FnOk P w K mg base CX0 k f fd ps (spF K ps.length F) ∧ ∀ as, F as ≠ none → as.length = ps.length
def Le (G F : Fn) : Prop := ∀ as r, G as = some r → F as = some r
section
variable {P : Program} {w : World} {K : PySem.W.Frag} {mg : Str → Option Value} {base : Heap}
theorem Kn.mono {j k : Nat} {x : Str} {F : Fn} (h : Kn P w K mg base j x F) (hk : j ≤ k) : Kn P w K mg base k x F := by
  obtain ⟨f, fd, ps, h1, h2, h3, h4, h5⟩ := h.ex
  exact ⟨f, fd, ps, h1, h2, h3, h4.mono hk, h5⟩
theorem spF_le {n : Nat} {G F : Fn} (h : Le G F) : ∀ vs H Q E, spF K n G vs H Q E → spF K n F vs H Q E := fun vs H Q E hs => by
  obtain ⟨hl, as, ps, r, cs, h1, h2, h3, h4⟩ := hs
  exact ⟨hl, as, ps, r, cs, h1, h2, h _ _ h3, h4⟩
theorem Kn.le {k : Nat} {x : Str} {G F : Fn} (h : Kn P w K mg base k x F) (le : Le G F) : Kn P w K mg base k x G := by
  obtain ⟨f, fd, ps, h1, h2, h3, h4, h5⟩ := h.ex
  refine ⟨f, fd, ps, h1, h2, h3, h4.imp (spF_le le), fun as ha => ?_⟩
  cases e : G as with
  | none => exact absurd e ha
  | some r => exact h5 as (by rw [le as r e]; exact fun z => nomatch z)
/-- a def that is never called so -/
theorem Kn.never {k : Nat} {x : Str} {f : Addr} {fd : FuncData} {ps : List Str} (h1 : mg x = some (.ref f)) (h2 : PySem.W.keepIn K (.ref f) = true) (h3 : Binds K fd ps []) : Kn P w K mg base k x (fun _ => none) :=
  ⟨f, fd, ps, h1, h2, h3, ⟨(fun vs H Q E h => by obtain ⟨_, as, ps, r, cs, _, _, e, _⟩ := h; cases e), (fun A outer s H args us vs Q E _ _ _ _ h => by obtain ⟨_, as, ps, r, cs, _, _, e, _⟩ := h; cases e)⟩, fun as h => absurd rfl h⟩
theorem fn_ok {x qual : Str} {st : Stmt} {f : Addr} {fd : FuncData} {N ps : List Str} {k : Nat} {Γ : Gm} {sv : SV} (Fu : Fun K x qual st f fd) (S : FnScope N ps (defScope st)) (hN : Γ.N = N) (hsc : Γ.sc = defScope st) (hbi : ∀ x ∈ Γ.bi, mg x = none)
    (hfn : ∀ y F, Γ.fn.lookup y = some F → Kn P w K mg base k y F) (hcn : ∀ x d, Γ.cn.lookup x = some d → ∃ v u, mg x = some u ∧ RelV v u ∧ ∀ H, Rp K H v d) (body : JSs Γ (defBody st) sv) :
    FnOk P w K mg base CX0 (k + 1) f fd ps (spF K ps.length (fnD N.length ps.length sv)) := by
  refine Fu.ok S (fun vs H Q E h => h.1) fun cdv A outer s H vs Q E hr h => ?_
  have fits : Fits Γ (cxOf CX0 P w K mg base N qual (defScope st) f cdv A outer s H E).nox := by
    refine ⟨hN.symm, S.nd, hsc.symm, fun x _ => .inl rfl, hbi, fun y F hy => ?_, hcn, rfl, by rw [hsc]; exact S.kind, rfl, ?_, hr.hd⟩
    · obtain ⟨f', fd', ps', g1, g2, g3, g4, g5⟩ := (hfn y F hy).ex
      exact ⟨k, f', fd', ps', g1, g2, g3, g4, hr, g5⟩
    · have := hr.un
      show (A.deeper (envOfC qual (defScope st) s.heap.objs.size f cdv)).units + 200 < cLine
      omega
  refine ⟨_, body.run _ fits, ?_⟩
  obtain ⟨hl, as, pps, r, cs, ha, hnd, hF, q⟩ := h
  unfold fnD at hF
  split at hF
  · obtain ⟨o, ho, hF⟩ := Option.bind_eq_some_iff.mp hF
    have hix := args_ix ha
    refine ⟨⟨H, pps⟩, startE N.length as, o, rep_start ha hnd, ho, ?_⟩
    cases o with
    | nx L =>
      obtain ⟨cs', h1, h2⟩ := Option.map_eq_some_iff.mp hF
      cases h2
      rw [← hix] at h1
      exact fun σ' H' R m => q .non H' R.base (cs_back R (fun _ h => h) h1) (show Rp K H' .non .non from .non)
    | rt r' L =>
      obtain ⟨cs', h1, h2⟩ := Option.map_eq_some_iff.mp hF
      cases h2
      rw [← hix] at h1
      exact fun v σ' H' R m hret => q v H' R.base (cs_back R (fun _ h => h) h1) hret
    | bk L => cases hF
    | ct L => cases hF
  · cases hF
theorem fnD_ar {n p : Nat} {sv : SV} (as : List Arg) (h : fnD n p sv as ≠ none) : as.length = p := by
  unfold fnD at h
  split at h
  · assumption
  · exact absurd rfl h
/-- THE RULE -/
theorem kn_of {x : Str} {st : Stmt} {f : Addr} {fd : FuncData} {N ps : List Str} {k : Nat} {Γ : Gm} {sv : SV} {G : Fn} (hm : mg x = some (.ref f)) (Fu : Fun K x x st f fd) (hb : Binds K fd ps []) (S : FnScope N ps (defScope st)) (hN : Γ.N = N) (hsc : Γ.sc = defScope st) (hbi : ∀ x ∈ Γ.bi, mg x = none)
    (hfn : ∀ p ∈ Γ.fn, Kn P w K mg base k p.1 p.2) (hcn : ∀ p ∈ Γ.cn, ∃ v u, mg p.1 = some u ∧ RelV v u ∧ ∀ H, Rp K H v p.2) (body : JSs Γ (defBody st) sv) (le : Le G (fnD N.length ps.length sv)) : Kn P w K mg base (k + 1) x G := by
  have look : ∀ {α : Type} {l : List (Str × α)} {y : Str} {v : α}, l.lookup y = some v → (y, v) ∈ l := fun {α l y v} h => by
    induction l with
    | nil => cases h
    | cons p r ih =>
      obtain ⟨n, u⟩ := p
      rw [List.lookup_cons] at h
      cases hb : y == n with
      | true =>
        rw [hb] at h
        have : y = n := by simpa using hb
        subst this
        cases h
        exact List.mem_cons_self
      | false =>
        rw [hb] at h
        exact List.mem_cons_of_mem _ (ih h)
  refine Kn.le (F := fnD N.length ps.length sv) ⟨f, fd, ps, hm, Fu.kp, hb, fn_ok Fu S hN hsc hbi (fun y F h => hfn (y, F) (look h)) (fun y d h => hcn (y, d) (look h)) body, fnD_ar⟩ le
end
end DD

end
section
set_option Elab.async false
set_option linter.all false
set_option maxRecDepth 100000
set_option maxHeartbeats 1000000
/-! D7: the rules with their side conditions in bundles, as the generator prints them. -/
namespace DD
open PySem PySem.Spec PyProof.Rows L2 RZ
/-- a name of the def's own, at slot i -/
structure Nm (N : List Str) (sc : Scope) (i : Nat) (x : Str) : Prop where
  ix : N[i]? = some x
  vs : visS sc x = true
  db : (x == ("__debug__" : Str)) = false
  cd : (x == ("__classdict__" : Str)) = false
def locB (sc : Scope) (x : Str) : Bool := match sc.names.lookup x with
  | some .local => true
  | some .cell => true
  | _ => false
theorem locB_of {sc : Scope} {x : Str} (h : locB sc x = true) : sc.names.lookup x = some .local ∨ sc.names.lookup x = some .cell := by
  unfold locB at h
  split at h
  · exact .inl (by assumption)
  · exact .inr (by assumption)
  · cases h
/-- .. that is stored -/
structure Ns (N : List Str) (sc : Scope) (st : List Str) (i : Nat) (x : Str) : Prop where
  ix : N[i]? = some x
  lc : locB sc x = true
  st : x ∈ st
/-- a builtin, whatever def reads it -/
structure B0 (bi : List Str) (x : Str) (f : Value) : Prop where
  bi : x ∈ bi
  boot : bootBuiltins x = some f
  nn : x ≠ "__name__"
  db : (x == ("__debug__" : Str)) = false
def glS (sc : Scope) (x : Str) : Bool := match sc.names.lookup x with
  | some .globalImplicit => true
  | _ => false
theorem glS_of {sc : Scope} {x : Str} (h : glS sc x = true) : sc.names.lookup x = some .globalImplicit := by
  unfold glS at h
  split at h
  · assumption
  · cases h
structure Bn (sc : Scope) (bi : List Str) (x : Str) (f : Value) : Prop where
  g : glS sc x = true
  b0 : B0 bi x f
theorem Bn.gl {sc : Scope} {bi : List Str} {x : Str} {f : Value} (h : Bn sc bi x f) : sc.names.lookup x = some .globalImplicit := glS_of h.g
theorem Bn.bi {sc : Scope} {bi : List Str} {x : Str} {f : Value} (h : Bn sc bi x f) : x ∈ bi := h.b0.bi
theorem Bn.boot {sc : Scope} {bi : List Str} {x : Str} {f : Value} (h : Bn sc bi x f) : bootBuiltins x = some f := h.b0.boot
theorem Bn.nn {sc : Scope} {bi : List Str} {x : Str} {f : Value} (h : Bn sc bi x f) : x ≠ "__name__" := h.b0.nn
theorem Bn.db {sc : Scope} {bi : List Str} {x : Str} {f : Value} (h : Bn sc bi x f) : (x == ("__debug__" : Str)) = false := h.b0.db
/-- a def of the program -/
structure Dn (sc : Scope) (fn : List (Str × Fn)) (x : Str) (F : Fn) : Prop where
  g : glS sc x = true
  fn : fn.lookup x = some F
  db : (x == ("__debug__" : Str)) = false
theorem Dn.gl {sc : Scope} {fn : List (Str × Fn)} {x : Str} {F : Fn} (h : Dn sc fn x F) : sc.names.lookup x = some .globalImplicit := glS_of h.g
/-- a constant of the program -/
structure Cn (sc : Scope) (cn : List (Str × D)) (x : Str) (d : D) : Prop where
  g : glS sc x = true
  cn : cn.lookup x = some d
  db : (x == ("__debug__" : Str)) = false
theorem Cn.gl {sc : Scope} {cn : List (Str × D)} {x : Str} {d : D} (h : Cn sc cn x d) : sc.names.lookup x = some .globalImplicit := glS_of h.g
def nmC (N : List Str) (sc : Scope) (i : Nat) (x : Str) : Bool := decide (N[i]? = some x) && visS sc x && !(x == ("__debug__" : Str)) && !(x == ("__classdict__" : Str))
theorem nm_by {N : List Str} {sc : Scope} {i : Nat} {x : Str} (h : nmC N sc i x = true) : Nm N sc i x := by
  unfold nmC at h
  simp only [Bool.and_eq_true, decide_eq_true_eq, Bool.not_eq_true'] at h
  exact ⟨h.1.1.1, h.1.1.2, h.1.2, h.2⟩
def nsC (N : List Str) (sc : Scope) (st : List Str) (i : Nat) (x : Str) : Bool := decide (N[i]? = some x) && locB sc x && decide (x ∈ st)
theorem ns_by {N : List Str} {sc : Scope} {st : List Str} {i : Nat} {x : Str} (h : nsC N sc st i x = true) : Ns N sc st i x := by
  unfold nsC at h
  simp only [Bool.and_eq_true, decide_eq_true_eq] at h
  exact ⟨h.1.1, h.1.2, h.2⟩
/-- a comprehension's block -/
structure Lk (N : List Str) (sc scope : Scope) (own : List (Str × Nat)) (ts : List Nat) : Prop where
  blk : blkC N sc scope own = true
  kind : scope.kind = .function
  st : ∀ x ∈ own.map (·.1), (scope.names.lookup x == some .cell) = true ∨ (relS scope sc).names.lookup x = some .local
  ts : ∀ t ∈ ts, t ∈ own.map (·.2)
def lkC (N : List Str) (sc scope : Scope) (own : List (Str × Nat)) (ts : List Nat) : Bool :=
  blkC N sc scope own && (match scope.kind with | .function => true | _ => false) && ((own.map (·.1)).all fun x => (scope.names.lookup x == some .cell) || decide ((relS scope sc).names.lookup x = some .local)) && (ts.all fun t => decide (t ∈ own.map (·.2)))
theorem lk_by {N : List Str} {sc scope : Scope} {own : List (Str × Nat)} {ts : List Nat} (h : lkC N sc scope own ts = true) : Lk N sc scope own ts := by
  unfold lkC at h
  simp only [Bool.and_eq_true, List.all_eq_true, decide_eq_true_eq, Bool.or_eq_true] at h
  obtain ⟨⟨⟨h1, h2⟩, h3⟩, h4⟩ := h
  refine ⟨h1, ?_, h3, h4⟩
  split at h2
  · assumption
  · cases h2
section
variable {Γ : Gm} {pos p1 p2 p3 p4 apos spos py : Pos} {a b c e e2 tg iter elt : Expr} {es ifs : List Expr} {ea eb ev : EV} {eo : EO} {ess : ES} {eg : EG} {i : Nat} {x y : Str} {it : EI} {g : GV} {tt : ET} {ts : List Nat} {scope : Scope} {own : List (Str × Nat)}
theorem k_mv (h : Nm Γ.N Γ.sc i x) : JE Γ (.Name x pos) (eMv i) := je_mv i h.ix h.vs h.db h.cd
theorem k_l (h : Nm Γ.N Γ.sc i x) : JS Γ (.Name x pos) (sqL i) := js_l i h.ix h.vs h.db h.cd
theorem k_cn {d : D} (h : Cn Γ.sc Γ.cn x d) : JE Γ (.Name x pos) (eC d) := je_cn h.cn h.gl h.db
theorem k_ixN (h : Nm Γ.N Γ.sc i x) (hb : JE Γ b eb) (hs : PlainIx b) : JE Γ (.Subscript (.Name x p1) b pos) (eIxN i eb) := je_ixN i h.ix h.vs h.db h.cd hb hs
theorem k_gs (h : Nm Γ.N Γ.sc i x) (hr : JG Γ es eg) : JG Γ (.Name x p1 :: es) (gS i eg) := jg_s i h.ix h.vs h.db h.cd hr
theorem k_retL (h : Nm Γ.N Γ.sc i x) : JSt Γ (.Return (some (.Name x p1)) pos) (sRetL i) := jst_retL i h.ix h.vs h.db h.cd
theorem k_b1 {f : Value} {g : Sq → Option D} (h : Bn Γ.sc Γ.bi x f) (hB : B1 Γ f g) (ha : JS Γ e ess) (hf : isBlt f = true) : JE Γ (.Call (.Name x p1) [e] [] pos) (e1 g ess) := je_b1 hB ha h.boot hf h.gl h.bi h.nn h.db
theorem k_o1 {f : Value} {g : Sq → Option Cont} (h : Bn Γ.sc Γ.bi x f) (hB : B1o Γ f g) (ha : JS Γ e ess) (hf : isBlt f = true) : JO Γ (.Call (.Name x p1) [e] [] pos) (o1 g ess) := jo_b1 hB ha h.boot hf h.gl h.bi h.nn h.db
theorem k_b2 {f : Value} {g : D → D → Option D} (h : Bn Γ.sc Γ.bi x f) (hB : B2 Γ f g) (ha : JE Γ e ea) (hb : JE Γ e2 eb) (hf : isBlt f = true) : JE Γ (.Call (.Name x p1) [e, e2] [] pos) (eOp g ea eb) := je_b2 hB ha hb h.boot hf h.gl h.bi h.nn h.db
theorem Bn.ty {T : String} (h : Bn Γ.sc Γ.bi x (.type T)) (hT : T ∈ clsNames) : TyNm Γ x T := ⟨h.gl, h.bi, h.boot, h.nn, h.db, hT⟩
theorem k_isi {T : String} (h : Bn Γ.sc Γ.bi y (.builtin "isinstance")) (ha : JE Γ e ea) (hx : Bn Γ.sc Γ.bi x (.type T)) (hT : T ∈ clsNames) : JE Γ (.Call (.Name y p1) [e, .Name x p2] [] pos) (eIsi [T] ea) := je_isi ha (hx.ty hT) h.boot h.gl h.bi h.nn h.db
theorem k_isi2 {T T' : String} {x' : Str} {k} (h : Bn Γ.sc Γ.bi y (.builtin "isinstance")) (ha : JE Γ e ea) (hx : Bn Γ.sc Γ.bi x (.type T)) (hx' : Bn Γ.sc Γ.bi x' (.type T')) (hT : T ∈ clsNames) (hT' : T' ∈ clsNames) : JE Γ (.Call (.Name y p1) [e, .Tuple [.Name x p2, .Name x' p3] k p4] [] pos) (eIsi [T, T'] ea) :=
  je_isi2 ha (hx.ty hT) (hx'.ty hT') h.boot h.gl h.bi h.nn h.db
theorem k_call {F : Fn} (h : Dn Γ.sc Γ.fn x F) (ha : JG Γ (e :: es) eg) (hN : ∀ env, (backTo pos (starEach es env)).any (·.1) = false) (hs : ∀ env, starEach (e :: es) env = (false, eval e env) :: starEach es env) : JE Γ (.Call (.Name x p1) (e :: es) [] pos) (eCall F eg) := je_call h.fn h.gl ha h.db hN hs
theorem k_callO {F : Fn} (h : Dn Γ.sc Γ.fn x F) (ha : JG Γ (e :: es) eg) (hN : ∀ env, (backTo pos (starEach es env)).any (·.1) = false) (hs : ∀ env, starEach (e :: es) env = (false, eval e env) :: starEach es env) : JO Γ (.Call (.Name x p1) (e :: es) [] pos) (oCall F eg) := jo_call h.fn h.gl ha h.db hN hs
theorem k_name (h : Ns Γ.N Γ.sc Γ.st i x) : JG1 Γ (.Name x p1) [i] (gN i) := jg_name i h.ix (locB_of h.lc) h.st
theorem k_set (h : Ns Γ.N Γ.sc Γ.st i x) (he : JE Γ e ev) (hw : ∀ env : PySem.Env, swapsWith e (some (.Name x p1)) pos.line env = pure false) : JSt Γ (.Assign [.Name x p1] e pos) (sAs (gN i) ev) := jst_set i he h.ix (locB_of h.lc) h.st hw
theorem k_own (h : Ns Γ.N Γ.sc Γ.st i x) (he : JO Γ e eo) (hw : swapsWith e (some (.Name x p1)) pos.line (env0 Γ.sc) = pure false) : JSt Γ (.Assign [.Name x p1] e pos) (sOw i eo) := jst_own0 i he h.ix (locB_of h.lc) h.st hw
theorem k_aug {op : Operator} {g : D → D → Option D} (h : Ns Γ.N Γ.sc Γ.st i x) (ho : Op2 Γ (inplaceOp op) g) (he : JE Γ e ev) : JSt Γ (.AugAssign (.Name x p1) op e pos) (sAug g i ev) := jst_aug i ho h.ix (locB_of h.lc) h.st he
theorem k_put (h : Nm Γ.N Γ.sc i x) (hb : JE Γ b eb) (he : JE Γ e ev)
    (ha : ∀ (env : PySem.Env) (v : Value), assign (.Subscript (.Name x p1) b p2) env v = (do
      let ov ← holding [v] (eval (.Name x p1) env)
      let iv ← holding [v, ov] (eval b env)
      standAt p2
      holding [v, ov, iv] (setItem ov iv v)
      release [v, ov, iv] []))
    (hs : ∀ env : PySem.Env, swapsWithSole [.Subscript (.Name x p1) b p2] e pos.line env = pure false) (hw : ∀ env : PySem.Env, swappedStores [.Subscript (.Name x p1) b p2] e env = pure none) (h1 : ∀ env : PySem.Env, (assignEach [.Subscript (.Name x p1) b p2] env).map (·.2) = [assign (.Subscript (.Name x p1) b p2) env]) :
    JSt Γ (.Assign [.Subscript (.Name x p1) b p2] e pos) (sPut i eb ev) := jst_put i h.ix h.vs h.db h.cd hb he ha hs hw h1
theorem k_app (h : Nm Γ.N Γ.sc i x) (he : JE Γ e ev) (hbase : ∀ env : PySem.Env, attributeBase (.Name x p1) "append" env (eval (.Name x p1) env) = eval (.Name x p1) env)
    (hfew : ∀ env : PySem.Env, ((backTo pos (starEach [e] env)).all (fun x => !x.1) && (backToKw pos (keywordEach [] env)).all (fun x => x.1.isSome) && decide ([e].length + ([] : List Keyword).length + (if ([] : List Keyword).isEmpty then 0 else 1) < 30)) = true)
    (hline : (apos.endLine == pos.line) = true) : JE Γ (.Call (.Attribute (.Name x p1) "append" apos) [e] [] pos) (eApp i ev) := je_app i h.ix h.vs h.db h.cd he hbase hfew hline
theorem k_popA (h : Nm Γ.N Γ.sc i x) (he : JE Γ e ev) (hbase : ∀ env : PySem.Env, attributeBase (.Name x p1) "pop" env (eval (.Name x p1) env) = eval (.Name x p1) env)
    (hfew : ∀ env : PySem.Env, ((backTo pos (starEach [e] env)).all (fun x => !x.1) && (backToKw pos (keywordEach [] env)).all (fun x => x.1.isSome) && decide ([e].length + ([] : List Keyword).length + (if ([] : List Keyword).isEmpty then 0 else 1) < 30)) = true)
    (hline : (apos.endLine == pos.line) = true) : JE Γ (.Call (.Attribute (.Name x p1) "pop" apos) [e] [] pos) (ePopA i ev) := je_popA i h.ix h.vs h.db h.cd he hbase hfew hline
theorem k_pop (h : Nm Γ.N Γ.sc i x) (hbase : ∀ env : PySem.Env, attributeBase (.Name x p1) "pop" env (eval (.Name x p1) env) = eval (.Name x p1) env) (hline : (apos.endLine == pos.line) = true) : JE Γ (.Call (.Attribute (.Name x p1) "pop" apos) [] [] pos) (ePop i) := je_pop i h.ix h.vs h.db h.cd hbase hline
theorem k_range1 (h : Bn Γ.sc Γ.bi "range" (.type "range")) (he : JE Γ e ev) : JI Γ tg (.Call (.Name "range" p1) [e] [] pos) (itR1 ev) := ji_range1 h.gl h.bi he
theorem k_range2 (h : Bn Γ.sc Γ.bi "range" (.type "range")) (he : JE Γ e ev) (h2 : JE Γ e2 eb) : JI Γ tg (.Call (.Name "range" p1) [e, e2] [] pos) (itR2 ev eb) := ji_range2 h.gl h.bi he h2
theorem k_enum {elts : List Expr} {kk : Nat} (h : Bn Γ.sc Γ.bi "enumerate" (.type "enumerate")) (he : JE Γ e ev) : JI Γ (.Tuple elts kk p2) (.Call (.Name "enumerate" p1) [e] [] pos) (itEn ev) := ji_enum h.gl h.bi he
theorem k_zip {elts : List Expr} {kk : Nat} (h : Bn Γ.sc Γ.bi "zip" (.type "zip")) (he : JE Γ e ev) (h2 : JE Γ e2 eb) : JI Γ (.Tuple elts kk p2) (.Call (.Name "zip" p1) [e, e2] [] pos) (itZ ev eb) := ji_zip h.gl h.bi he h2
theorem k_lc (os : List Str) (vs : List Nat) (ok : Lk Γ.N Γ.sc scope own ts) (eo : own.map (·.1) = os) (ev' : own.map (·.2) = vs) (hi : JI Γ tg iter it) (hg : JG1 (Γ.inn scope os) tg ts g) (ht : JTs (Γ.inn scope os) ifs tt) (he : JE (Γ.inn scope os) elt ev) (hs : ∀ (env : PySem.Env) x, foldedSetIterable iter env x = pure x) :
    JO Γ (.ListComp elt [⟨tg, iter, ifs, 0⟩] scope pos) (oLc it g tt ev vs) := by subst eo ev'; exact jo_lc ⟨ok.blk, ok.kind, ok.st, ok.ts⟩ hi hg ht he hs
theorem k_slc (os : List Str) (vs : List Nat) (h : Ns Γ.N Γ.sc Γ.st i x) (hl : Γ.sc.names.lookup x = some .local) (ok : Lk Γ.N Γ.sc scope own ts) (eo : own.map (·.1) = os) (ev' : own.map (·.2) = vs) (hi : JI Γ tg iter it) (hg : JG1 (Γ.inn scope os) tg ts g) (ht : JTs (Γ.inn scope os) ifs tt) (he : JE (Γ.inn scope os) elt ev) (hs : ∀ (env : PySem.Env) x, foldedSetIterable iter env x = pure x)
    (hw : swapsWith (.ListComp elt [⟨tg, iter, ifs, 0⟩] scope pos) (some (.Name x py)) spos.line (env0 Γ.sc) = pure true) : JSt Γ (.Assign [.Name x py] (.ListComp elt [⟨tg, iter, ifs, 0⟩] scope pos) spos) (sOw i (oLc it g tt ev vs)) := by subst eo ev'; exact jst_lc i ⟨ok.blk, ok.kind, ok.st, ok.ts⟩ hi hg ht he hs h.ix hl hw
theorem k_par {i j : Nat} {x y : Str} {a b : Expr} {px py pt : Pos} {kt k2 pt2} (h : Ns Γ.N Γ.sc Γ.st i x) (h' : Ns Γ.N Γ.sc Γ.st j y) (ha : JG Γ [a, b] eg) (hij : i ≠ j) (hx : Γ.sc.names.lookup x = some .local) (hy : Γ.sc.names.lookup y = some .local)
    (hw : swappedStores [.Tuple [.Name x px, .Name y py] kt pt] (.Tuple [a, b] k2 pt2) (env0 Γ.sc) = pure (some [x, y])) (hs : ∀ env : PySem.Env, swapsWithSole [.Tuple [.Name x px, .Name y py] kt pt] (.Tuple [a, b] k2 pt2) pos.line env = pure false) :
    JSt Γ (.Assign [.Tuple [.Name x px, .Name y py] kt pt] (.Tuple [a, b] k2 pt2) pos) (sPar [i, j] eg) := jst_par ha h.ix h'.ix hij hx hy (fun env e => (swapped_scope (env' := env0 Γ.sc) e).trans hw) hs
theorem k_par3 {i j l : Nat} {x y z : Str} {a b c : Expr} {px py pz pt : Pos} {kt k2 pt2} (h : Ns Γ.N Γ.sc Γ.st i x) (h' : Ns Γ.N Γ.sc Γ.st j y) (h'' : Ns Γ.N Γ.sc Γ.st l z) (ha : JG Γ [a, b, c] eg) (hij : i ≠ j) (hil : i ≠ l) (hjl : j ≠ l) (hx : Γ.sc.names.lookup x = some .local) (hy : Γ.sc.names.lookup y = some .local) (hz : Γ.sc.names.lookup z = some .local)
    (hw : swappedStores [.Tuple [.Name x px, .Name y py, .Name z pz] kt pt] (.Tuple [a, b, c] k2 pt2) (env0 Γ.sc) = pure (some [x, y, z])) (hs : ∀ env : PySem.Env, swapsWithSole [.Tuple [.Name x px, .Name y py, .Name z pz] kt pt] (.Tuple [a, b, c] k2 pt2) pos.line env = pure false) :
    JSt Γ (.Assign [.Tuple [.Name x px, .Name y py, .Name z pz] kt pt] (.Tuple [a, b, c] k2 pt2) pos) (sPar [i, j, l] eg) := jst_par3 ha h.ix h'.ix h''.ix hij hil hjl hx hy hz (fun env e => (swapped_scope (env' := env0 Γ.sc) e).trans hw) hs
theorem swaps_none {ts : List Expr} {v : Expr} {Γ : Gm} (hw : swappedStores ts v (env0 Γ.sc) = pure none) : ∀ env : PySem.Env, env.scope = Γ.sc → swappedStores ts v env = pure none := fun env e => (swapped_scope (env' := env0 Γ.sc) e).trans hw
/-- .. of a tuple of targets, where the stores are not swapped in this scope -/
theorem k_as {tg : Expr} {ts : List Nat} {g : GV} (he : JE Γ e ev) (hg : JG1 Γ tg ts g) (hs : ∀ env : PySem.Env, swapsWithSole [tg] e pos.line env = pure false) (hw : swappedStores [tg] e (env0 Γ.sc) = pure none) (h1 : ∀ env : PySem.Env, (assignEach [tg] env).map (·.2) = [assign tg env]) : JSt Γ (.Assign [tg] e pos) (sAs g ev) := by
  refine ⟨fun X F => ps_mono (ps_asg (he.run X F) (hg.run X F) (hs _) (swaps_none hw _ F.sc) (h1 _)) fun D σ H h => ?_⟩
  obtain ⟨B, L, o, R, e, ok⟩ := h
  obtain ⟨⟨d, L1⟩, k1, e⟩ := Option.bind_eq_some_iff.mp e
  obtain ⟨L2, k2, e⟩ := Option.map_eq_some_iff.mp e
  cases e
  exact ⟨B, L, d, L1, R, k1, fun v H' R' s l r => ⟨B, L1, d, L2, R', r, k2, fun σ' R2 _ => ok σ' H' R2 (R.mo s)⟩⟩

theorem mem_sortS {l : List Nat} {ks : List (List Nat)} : l ∈ sortS ks ↔ l ∈ ks := (sortS_perm ks).mem_iff
theorem mem_addK {ks : List (List Nat)} {k l : List Nat} : l ∈ addK ks k ↔ l ∈ ks ∨ l = k := by
  unfold addK
  split
  · rename_i h
    constructor
    · exact .inl
    · rintro (z | rfl)
      · exact z
      · exact h
  · rw [List.mem_append, List.mem_singleton]
theorem mem_dedup {l : List Nat} (ks : List (List Nat)) : l ∈ dedup ks ↔ l ∈ ks := by
  have : ∀ (ks acc : List (List Nat)), l ∈ ks.foldl addK acc ↔ l ∈ acc ∨ l ∈ ks := by
    intro ks
    induction ks with
    | nil => intro acc; simp
    | cons k r ih =>
      intro acc
      rw [List.foldl_cons, ih, mem_addK, List.mem_cons, or_assoc]
  unfold dedup
  rw [this ks []]
  simp
theorem sorted_small {l0 l : List Nat} (h : l ∈ sortS (dedup (chars l0))) : l.length ≤ sizeLine := by
  rw [mem_sortS, mem_dedup] at h
  obtain ⟨c, _, rfl⟩ := List.mem_map.mp h
  show 1 ≤ sizeLine
  decide
/-! ### -x -/
def eNeg (ea : EV) : EV := fun L => match ea L with
  | some (.int i, L') => some (.int (-i), L')
  | _ => none
theorem je_neg (ha : JE Γ a ea) : JE Γ (.UnaryOp .USub a pos) (eNeg ea) := by
  refine ⟨fun _ _ => rfl, fun X F => pe_mono (pe_un un_neg (ha.run X F)) fun σ H Q h => ?_⟩
  obtain ⟨B, L, d, L', R, e, q⟩ := h
  unfold eNeg at e
  split at e
  · rename_i n L1 e1
    cases e
    exact ⟨B, L, _, _, R, e1, fun v H' R' s l r => ⟨n, r.int_of, q _ H' R' s l (.int _)⟩⟩
  · cases e
/-! ### sorted(set(e)), len(set(e)) of a text -/
def setD : D → Option (List (List Nat))
  | .str l => if l.length ≤ 1000 then some (dedup (chars l)) else none
  | _ => none
def oSS (ea : EV) : EO := fun L => (ea L).bind fun p => (setD p.1).map fun ks => (.l ((sortS ks).map D.str), p.2)
def eLS (ea : EV) : EV := fun L => (ea L).bind fun p => (setD p.1).map fun ks => (.int ks.length, p.2)
theorem setD_some {d : D} {ks : List (List Nat)} (h : setD d = some ks) : ∃ l, d = .str l ∧ l.length ≤ 1000 ∧ ks = dedup (chars l) := by
  unfold setD at h
  split at h
  · rename_i l
    split at h
    · rename_i hl; cases h; exact ⟨l, rfl, hl, rfl⟩
    · cases h
  · cases h
theorem pe_setT {X : Cx} (F : Fits Γ X) {sx : Str} (h : Bn Γ.sc Γ.bi sx (.type "set")) (ha : JE Γ e ea) : PE X (.Call (.Name sx p1) [e] [] p2) (fun σ H Q => ∃ B L L' ks, Rep X.K B L σ H ∧ (∃ d, ea L = some (d, L') ∧ setD d = some ks) ∧ ∀ p H', Rep X.K B L' σ H' → Stp L σ H H' → LSub L L' → H p = none → H' p = some (SetT X.prog X.w p ks) → Q (.ref p) H') := by
  refine pe_mono (pe_any1 (cr_set_text F.hd) rfl (F.gl sx h.gl) (F.bi sx h.bi) h.boot (pa_cons (ha.run X F) pa_nil (ha.ns _ _)) h.nn h.db (ha.ns _ _) rfl) fun σ H Q hq => ?_
  obtain ⟨B, L, L', ks, R, ⟨d, k1, k2⟩, q⟩ := hq
  obtain ⟨l, rfl, hl, rfl⟩ := setD_some k2
  refine ⟨B, L, _, L', R, k1, fun v H1 R1 s1 l1 r1 => ⟨l, by rw [r1.str_of.1], hl, fun p hp => ?_⟩⟩
  exact q p _ (R1.grow (Same.new hp)) (s1.trans l1 (.of_same (Same.new hp))) l1 (s1.dom _ hp) upd_same
theorem k_ss {sx : Str} (h : Bn Γ.sc Γ.bi x (.builtin "sorted")) (h2 : Bn Γ.sc Γ.bi sx (.type "set")) (ha : JE Γ e ea) : JO Γ (.Call (.Name x p3) [.Call (.Name sx p1) [e] [] p2] [] pos) (oSS ea) := by
  refine ⟨fun _ _ => rfl, fun X F => ?_⟩
  refine pe_mono (pe_any1 (cr_sorted_set F.hd) rfl (F.gl x h.gl) (F.bi x h.bi) h.boot (pa_cons (pe_setT F h2 ha) pa_nil rfl) h.nn h.db rfl rfl) fun σ H Q hq => ?_
  obtain ⟨B, L, c, L', R, e, q⟩ := hq
  obtain ⟨⟨d, L1⟩, k1, e⟩ := Option.bind_eq_some_iff.mp e
  obtain ⟨ks, k2, e⟩ := Option.map_eq_some_iff.mp e
  cases e
  refine ⟨B, L, L1, ks, R, ⟨d, k1, k2⟩, fun p H' R' s l np hp => ⟨p, ks, rfl, hp, fun p' hp' => ?_⟩⟩
  refine q p' _ (R'.grow (Same.new hp')) (s.trans l (.of_same (Same.new hp'))) l (s.dom _ hp') ⟨_, upd_same, ?_⟩
  have := RpA.of_strs (K := X.K) (H := upd H' p' (.lst ((sortS ks).map fun l => V.str (sOf l)))) (sortS ks) ?_
  · rw [List.map_map] at this
    exact this
  · intro l hl
    obtain ⟨l0, rfl, hl0, rfl⟩ := setD_some k2
    exact sorted_small hl
theorem k_ls {sx : Str} (h : Bn Γ.sc Γ.bi x (.builtin "len")) (h2 : Bn Γ.sc Γ.bi sx (.type "set")) (ha : JE Γ e ea) : JE Γ (.Call (.Name x p3) [.Call (.Name sx p1) [e] [] p2] [] pos) (eLS ea) := by
  refine ⟨fun _ _ => rfl, fun X F => ?_⟩
  refine pe_mono (pe_any1 cr_len_set rfl (F.gl x h.gl) (F.bi x h.bi) h.boot (pa_cons (pe_setT F h2 ha) pa_nil rfl) h.nn h.db rfl rfl) fun σ H Q hq => ?_
  obtain ⟨B, L, c, L', R, e, q⟩ := hq
  obtain ⟨⟨d, L1⟩, k1, e⟩ := Option.bind_eq_some_iff.mp e
  obtain ⟨ks, k2, e⟩ := Option.map_eq_some_iff.mp e
  cases e
  exact ⟨B, L, _, ks, R, ⟨d, k1, k2⟩, fun p H' R' s l np hp => ⟨p, ks, rfl, hp, q _ H' R' s l (.int _)⟩⟩
end
end DD

end
section
set_option Elab.async false
set_option linter.all false
set_option maxRecDepth 100000
set_option maxHeartbeats 1000000
/-! D8: the whole, put together. -/
namespace DD
open PySem PySem.Spec PyProof.Rows L2 RZ
theorem thenn {p q : Prop} (h : p) (k : p → q) : q := k h
/-- a def as the top has written it -/
structure Df (K : PySem.W.Frag) (mg : Str → Option Value) (x : Str) (st : Stmt) (ps : List Str) : Prop where
  ex : ∃ (f : Addr) (fd : FuncData), mg x = some (.ref f) ∧ Fun K x x st f fd ∧ Binds K fd ps []
section
variable {P : Program} {w : World} {K : PySem.W.Frag} {mg : Str → Option Value} {base h : Heap}
theorem df_mk {x : Str} {st : Stmt} {ps : List Str} (X : K.In h) (G : h.Ns mainGlobals mg) {f : Addr} {oc : Value} {od an : Option Addr} {osl : Array (Option Value)} {kV doc pm cdv ct : Value}
    (hb : ∀ (kV doc pm : Value) (an : Option Addr) (cdv ct : Value) (us : List Value), us.length = ps.length → bindArgs (PySem.W.fnOf x x (defArgs st) (defBody st) (defScope st) .none kV doc pm an cdv ct) ⟨us, []⟩ = pure (ps.zip us))
    (a : PySem.W.nsIn K mainGlobals x = some (some (.ref f))) (l : K.lookup f = some ⟨oc, od, .func (PySem.W.fnOf x x (defArgs st) (defBody st) (defScope st) .none kV doc pm an cdv ct), osl⟩) (c : PySem.W.codeIn K cdv x = true) (k : PySem.W.keepIn K (.ref f) = true) : Df K mg x st ps := by
  have F := fun_mk (st := st) l c k
  exact ⟨f, _, PySem.W.mg_of X G a, F, F.binds hb⟩
def AllQ {α : Type} (Q : α → Prop) : List α → Prop
  | [] => True
  | x :: r => Q x ∧ AllQ Q r
theorem AllQ.all {α : Type} {Q : α → Prop} : ∀ {l : List α}, AllQ Q l → ∀ x ∈ l, Q x
  | [], _, x, h => nomatch h
  | y :: r, a, x, h => by
    rcases List.mem_cons.mp h with rfl | h
    · exact a.1
    · exact AllQ.all a.2 x h
theorem kn_df {x : Str} {st : Stmt} {N ps : List Str} {k : Nat} {Γ : Gm} {sv : SV} {G : Fn} (d : Df K mg x st ps) (S : FnScope N ps (defScope st)) (hN : Γ.N = N) (hsc : Γ.sc = defScope st) (hbi : AllQ (fun x => mg x = none) Γ.bi)
    (hfn : AllQ (fun p => Kn P w K mg base k p.1 p.2) Γ.fn) (hcn : AllQ (fun p => ∃ v u, mg p.1 = some u ∧ RelV v u ∧ ∀ H, Rp K H v p.2) Γ.cn) (body : JSs Γ (defBody st) sv) (le : Le G (fnD N.length ps.length sv)) : Kn P w K mg base (k + 1) x G := by
  obtain ⟨f, fd, h1, h2, h3⟩ := d.ex
  exact kn_of h1 h2 h3 S hN hsc hbi.all hfn.all hcn.all body le
theorem kn_never {x : Str} {st : Stmt} {ps : List Str} {k : Nat} (d : Df K mg x st ps) : Kn P w K mg base k x (fun _ => none) := by
  obtain ⟨f, fd, h1, h2, h3⟩ := d.ex
  exact Kn.never h1 h2.kp h3
theorem cn_str {x : Str} {l : List Nat} {s : Str} {t : Tok} (X : K.In h) (G : h.Ns mainGlobals mg) (a : PySem.W.nsIn K mainGlobals x = some (some (.str s t))) (e : sOf l = s) (hl : l.length ≤ 1000) : ∃ v u, mg x = some u ∧ RelV v u ∧ ∀ H, Rp K H v (.str l) :=
  ⟨.str s, _, PySem.W.mg_of X G a, ⟨t, rfl⟩, fun H => by subst e; exact .str (Nat.le_of_lt (small1000 hl))⟩
theorem cn_int {x : Str} {i : Int} {t : Tok} (X : K.In h) (G : h.Ns mainGlobals mg) (a : PySem.W.nsIn K mainGlobals x = some (some (.int i t))) : ∃ v u, mg x = some u ∧ RelV v u ∧ ∀ H, Rp K H v (.int i) :=
  ⟨.int i, _, PySem.W.mg_of X G a, ⟨t, rfl⟩, fun H => .int i⟩
/-- the law's own end: it answers True -/
theorem sp_law {H : Hp} {a : Addr} {ns : List Int} {G : Fn} {E : XK} (hO : Only H) (hS : SqL K H a (ns.map V.int)) (h : G [.v (.scr ns)] = some (.v (.bl true), [])) : spF K 1 G [.ref a] H (fun v _ => v = .bl true) E := by
  have fz : FzK K H a (ns.map V.int) := by
    rcases hS with (hS | ⟨o, hS⟩) | hS
    · rcases hO a with z | ⟨o, xs, z⟩
      · rw [z] at hS; cases hS
      · rw [z] at hS; cases hS
    · exact .inl ⟨o, hS⟩
    · exact .inr hS
  refine ⟨rfl, [.v (.scr ns)], [], .v (.bl true), [], And.intro (.scr fz) rfl, .nil, h, fun v H' _ _ hr => ?_⟩
  exact Rp.bl_of hr
end
end DD

end
section
set_option Elab.async false
set_option linter.all false
set_option maxRecDepth 100000
set_option maxHeartbeats 1000000
/-! D9: the law's def at the end. -/
namespace DD
open PySem PySem.Spec PyProof.Rows L2 RZ
structure DfL (K : PySem.W.Frag) (mg : Str → Option Value) (x : Str) (st : Stmt) (ps : List Str) : Prop where
  ex : ∃ (f : Addr) (fd : FuncData), mg x = some (.ref f) ∧ Fun K x x st f fd ∧ ∀ us : List Value, us.length = ps.length → bindArgs fd ⟨us, []⟩ = pure (ps.zip us)
section
variable {P : Program} {w : World} {K : PySem.W.Frag} {mg : Str → Option Value} {base h : Heap}
theorem dfL_mk {x : Str} {st : Stmt} {ps : List Str} (X : K.In h) (G : h.Ns mainGlobals mg) {f : Addr} {oc : Value} {od an : Option Addr} {osl : Array (Option Value)} {kV doc pm cdv ct : Value}
    (hb : ∀ (kV doc pm : Value) (an : Option Addr) (cdv ct : Value) (us : List Value), us.length = ps.length → bindArgs (PySem.W.fnOf x x (defArgs st) (defBody st) (defScope st) .none kV doc pm an cdv ct) ⟨us, []⟩ = pure (ps.zip us))
    (a : PySem.W.nsIn K mainGlobals x = some (some (.ref f))) (l : K.lookup f = some ⟨oc, od, .func (PySem.W.fnOf x x (defArgs st) (defBody st) (defScope st) .none kV doc pm an cdv ct), osl⟩) (c : PySem.W.codeIn K cdv x = true) (k : PySem.W.keepIn K (.ref f) = true) : DfL K mg x st ps := by
  have F := fun_mk (st := st) l c k
  exact ⟨f, _, PySem.W.mg_of X G a, F, fun us hl => hb _ _ _ _ _ _ us hl⟩
theorem kn_rec {x : Str} {st : Stmt} {ps : List Str} {G : Nat → Fn} (d : Df K mg x st ps) (b : Nat) (h0 : Kn P w K mg base b x (G 0)) (hs : ∀ m, Kn P w K mg base (b + m) x (G m) → Kn P w K mg base (b + m + 1) x (G (m + 1))) : ∀ n, Kn P w K mg base (b + n) x (G n)
  | 0 => h0
  | n + 1 => hs n (kn_rec d b h0 hs n)
theorem law_F {x p : Str} {st : Stmt} {N : List Str} {k : Nat} {Γ : Gm} {sv : SV} {fa : Addr} (d : DfL K mg x st [p]) (hm : mg x = some (.ref fa)) (S : FnScope N [p] (defScope st)) (hN : Γ.N = N) (hsc : Γ.sc = defScope st) (hbi : AllQ (fun x => mg x = none) Γ.bi)
    (hcn : AllQ (fun p => ∃ v u, mg p.1 = some u ∧ RelV v u ∧ ∀ H, Rp K H v p.2) Γ.cn) (body : JSs Γ (defBody st) sv) (hfn : ∀ base : Heap, K.In base → base.Ns mainGlobals mg → AllQ (fun q => Kn P w K mg base k q.1 q.2) Γ.fn) :
    ∃ fd : FuncData, (∀ (s : Shared) (u : Value), BindsTo s fd ⟨[u], []⟩ [(p, u)]) ∧ ∀ base : Heap, K.In base → base.Ns mainGlobals mg → FnOk P w K mg base CX0 (k + 1) fa fd [p] (spF K 1 (fnD N.length 1 sv)) := by
  obtain ⟨f, fd, h1, h2, h3⟩ := d.ex
  rw [hm] at h1
  cases h1
  have look : ∀ {α : Type} {l : List (Str × α)} {y : Str} {v : α}, l.lookup y = some v → (y, v) ∈ l := fun {α l y v} h => by
    induction l with
    | nil => cases h
    | cons p r ih =>
      obtain ⟨n, u⟩ := p
      by_cases e : y = n
      · subst e
        rw [List.lookup_cons, beq_self_eq_true] at h
        cases h
        exact List.mem_cons_self
      · rw [List.lookup_cons, beq_false_of_ne e] at h
        exact List.mem_cons_of_mem _ (ih h)
  refine ⟨fd, fun s u => .of_eq (h3 [u] rfl), fun base X G => ?_⟩
  exact fn_ok h2 S hN hsc hbi.all (fun y F hy => (hfn base X G).all _ (look hy)) (fun x d hx => hcn.all _ (look hx)) body
end
end DD

end
section
set_option linter.all false
/-! F1: the plain theory of forms (no program in sight). -/
namespace FM

/-- drop letters from the front as long as they come again: what is behind the letter that is gone first, and that letter -/
def q : List Nat → List Nat × Nat
  | [] => ([], 0)
  | c :: r => if c ∈ r then q r else (r, c)
def sf (w : List Nat) : List Nat := (q w).1
def sl (w : List Nat) : Nat := (q w).2
def pf (w : List Nat) : List Nat := (sf w.reverse).reverse
def pl (w : List Nat) : Nat := sl w.reverse
theorem q_app {r : List Nat} (hr : r ≠ []) : ∀ {x : List Nat}, (∀ y ∈ x, y ∈ r) → q (x ++ r) = q r
  | [], _ => rfl
  | c :: x, h => by
    show (if c ∈ x ++ r then q (x ++ r) else (x ++ r, c)) = q r
    rw [if_pos (List.mem_append_right _ (h c List.mem_cons_self)), q_app hr fun y hy => h y (List.mem_cons_of_mem _ hy)]
theorem q_uniq {b : Nat} {r : List Nat} (hb : b ∉ r) {x : List Nat} (h : ∀ y ∈ x, y ∈ b :: r) : q (x ++ b :: r) = (r, b) := by
  rw [q_app (by simp) h]
  show (if b ∈ r then q r else (r, b)) = _
  rw [if_neg hb]
theorem q_spec : ∀ {w : List Nat}, w ≠ [] → ∃ x, w = x ++ sl w :: sf w ∧ sl w ∉ sf w ∧ ∀ y ∈ x, y ∈ sl w :: sf w
  | [], h => absurd rfl h
  | c :: r, _ => by
    unfold sl sf q
    by_cases hc : c ∈ r
    · rw [if_pos hc]
      have hr : r ≠ [] := by rintro rfl; cases hc
      obtain ⟨x, h1, h2, h3⟩ := q_spec hr
      refine ⟨c :: x, by rw [List.cons_append]; congr 1, h2, fun y hy => ?_⟩
      rcases List.mem_cons.mp hy with rfl | hy
      · have : y ∈ x ++ sl r :: sf r := h1 ▸ hc
        rcases List.mem_append.mp this with z | z
        · exact h3 y z
        · exact z
      · exact h3 y hy
    · rw [if_neg hc]
      exact ⟨[], rfl, hc, fun y hy => nomatch hy⟩
theorem mem_q {w : List Nat} (h : w ≠ []) {c : Nat} : c ∈ w ↔ c = sl w ∨ c ∈ sf w := by
  obtain ⟨x, h1, h2, h3⟩ := q_spec h
  constructor
  · intro hc
    rw [h1] at hc
    rcases List.mem_append.mp hc with z | z
    · exact List.mem_cons.mp (h3 c z)
    · exact List.mem_cons.mp z
  · intro hc
    rw [h1]
    exact List.mem_append_right _ (List.mem_cons.mpr hc)
theorem sl_notin {w : List Nat} (h : w ≠ []) : sl w ∉ sf w := by
  obtain ⟨x, h1, h2, h3⟩ := q_spec h
  exact h2
theorem rev_ne {w : List Nat} (h : w ≠ []) : w.reverse ≠ [] := by simpa using h
theorem mem_p {w : List Nat} (h : w ≠ []) {c : Nat} : c ∈ w ↔ c = pl w ∨ c ∈ pf w := by
  unfold pl pf
  rw [List.mem_reverse, ← mem_q (rev_ne h), List.mem_reverse]
theorem pl_notin {w : List Nat} (h : w ≠ []) : pl w ∉ pf w := by
  unfold pl pf
  rw [List.mem_reverse]
  exact sl_notin (rev_ne h)
theorem sf_lt {w : List Nat} (h : w ≠ []) : (sf w).length < w.length := by
  obtain ⟨x, h1, _⟩ := q_spec h
  have := congrArg List.length h1
  simp at this
  omega
theorem pf_lt {w : List Nat} (h : w ≠ []) : (pf w).length < w.length := by
  unfold pf
  have := sf_lt (rev_ne h)
  simpa using this

inductive Fm where
  | e
  | n (l : Fm) (a b : Nat) (r : Fm)
def form (w : List Nat) : Fm := if h : w = [] then .e else .n (form (pf w)) (pl w) (sl w) (form (sf w))
termination_by w.length
decreasing_by
  · exact pf_lt h
  · exact sf_lt h
theorem form_nil : form [] = .e := by rw [form]; rfl
theorem form_eq {w : List Nat} (h : w ≠ []) : form w = .n (form (pf w)) (pl w) (sl w) (form (sf w)) := by
  rw [form, dif_neg h]
theorem form_e {w : List Nat} : form w = .e ↔ w = [] := by
  constructor
  · intro h
    cases w with
    | nil => rfl
    | cons c r => rw [form_eq (by simp)] at h; cases h
  · rintro rfl; exact form_nil
def ltrs : Fm → List Nat
  | .e => []
  | .n l a _ _ => ltrs l ++ [a]
theorem mem_form : ∀ (k : Nat) {w : List Nat}, w.length ≤ k → ∀ c, c ∈ w ↔ c ∈ ltrs (form w)
  | 0, w, h, c => by
    have : w = [] := List.eq_nil_of_length_eq_zero (by omega)
    subst this
    rw [form_nil]; rfl
  | k + 1, w, h, c => by
    by_cases hw : w = []
    · subst hw; rw [form_nil]; rfl
    · rw [form_eq hw]
      show c ∈ w ↔ c ∈ ltrs (form (pf w)) ++ [pl w]
      have := pf_lt hw
      rw [List.mem_append, ← mem_form k (by omega), mem_p hw, List.mem_singleton]
      exact or_comm
theorem mem_of_form {u v : List Nat} (h : form u = form v) (c : Nat) : c ∈ u ↔ c ∈ v := by
  rw [mem_form _ (Nat.le_refl _), h, ← mem_form _ (Nat.le_refl _)]
def flip : Fm → Fm
  | .e => .e
  | .n l a b r => .n (flip r) b a (flip l)
theorem flip_flip : ∀ f : Fm, flip (flip f) = f
  | .e => rfl
  | .n l a b r => by show Fm.n (flip (flip l)) a b (flip (flip r)) = _; rw [flip_flip l, flip_flip r]
theorem form_rev : ∀ (k : Nat) {w : List Nat}, w.length ≤ k → form w.reverse = flip (form w)
  | 0, w, h => by
    have : w = [] := List.eq_nil_of_length_eq_zero (by omega)
    subst this
    rw [List.reverse_nil, form_nil]; rfl
  | k + 1, w, h => by
    by_cases hw : w = []
    · subst hw; rw [List.reverse_nil, form_nil]; rfl
    · rw [form_eq hw, form_eq (rev_ne hw)]
      have h1 := pf_lt hw
      have h2 := sf_lt hw
      have e1 : pf w.reverse = (sf w).reverse := by unfold pf; rw [List.reverse_reverse]
      have e2 : pl w.reverse = sl w := by unfold pl; rw [List.reverse_reverse]
      have e3 : sl w.reverse = pl w := rfl
      have e4 : sf w.reverse = (pf w).reverse := by unfold pf; rw [List.reverse_reverse]
      rw [e1, e2, e3, e4, form_rev k (by omega), form_rev k (w := pf w) (by omega)]; rfl
theorem form_reverse (w : List Nat) : form w.reverse = flip (form w) := form_rev _ (Nat.le_refl _)
theorem form_rev_iff {u v : List Nat} : form u = form v ↔ form u.reverse = form v.reverse := by
  rw [form_reverse, form_reverse]
  constructor
  · intro h; rw [h]
  · intro h; have := congrArg flip h; rwa [flip_flip, flip_flip] at this

theorem sf_of {u v : List Nat} (hu : u ≠ []) (h : form u = form v) : sl u = sl v ∧ form (sf u) = form (sf v) ∧ pl u = pl v ∧ form (pf u) = form (pf v) ∧ v ≠ [] := by
  have hv : v ≠ [] := by
    rintro rfl
    rw [form_nil] at h
    exact hu (form_e.mp h)
  rw [form_eq hu, form_eq hv] at h
  injection h with h1 h2 h3 h4
  exact ⟨h3, h4, h2, h1, hv⟩
/-- forms agree with what is put behind -/
theorem form_app : ∀ (k : Nat) {u u' v : List Nat}, u.length + v.length ≤ k → form u = form u' → form (u ++ v) = form (u' ++ v)
  | 0, u, u', v, hk, h => by
    have : v = [] := List.eq_nil_of_length_eq_zero (by omega)
    subst this
    rw [List.append_nil, List.append_nil]; exact h
  | k + 1, u, u', v, hk, h => by
    by_cases hv : v = []
    · subst hv; rw [List.append_nil, List.append_nil]; exact h
    by_cases hu : u = []
    · subst hu
      rw [form_nil] at h
      have : u' = [] := form_e.mp h.symm
      subst this; rfl
    obtain ⟨eb, et, _, _, hu'⟩ := sf_of hu h
    have n1 : u ++ v ≠ [] := by simp [hu]
    have n2 : u' ++ v ≠ [] := by simp [hu']
    rw [form_eq n1, form_eq n2]
    -- what is behind
    have S : sl (u ++ v) = sl (u' ++ v) ∧ form (sf (u ++ v)) = form (sf (u' ++ v)) := by
      obtain ⟨x, h1, h2, h3⟩ := q_spec hu
      obtain ⟨x', h1', h2', h3'⟩ := q_spec hu'
      have lt := sf_lt hu
      have ih := form_app k (u := sf u) (u' := sf u') (v := v) (by omega) et
      have key : ∀ {y : List Nat} {b : Nat} {t : List Nat}, (∀ z ∈ y, z ∈ b :: t) → q ((y ++ b :: t) ++ v) = q (b :: (t ++ v)) := fun {y b t} hy => by
        rw [List.append_assoc, List.cons_append]
        refine q_app (by simp) fun z hz => ?_
        rcases List.mem_cons.mp (hy z hz) with e | e
        · exact List.mem_cons.mpr (.inl e)
        · exact List.mem_cons_of_mem _ (List.mem_append_left _ e)
      have q1 : q (u ++ v) = q (sl u :: (sf u ++ v)) := by conv => lhs; rw [h1]
                                                           exact key h3
      have q2 : q (u' ++ v) = q (sl u' :: (sf u' ++ v)) := by conv => lhs; rw [h1']
                                                              exact key h3'
      by_cases hb : sl u ∈ v
      · have m1 : sl u ∈ sf u ++ v := List.mem_append_right _ hb
        have m2 : sl u' ∈ sf u' ++ v := List.mem_append_right _ (eb ▸ hb)
        have r1 : q (u ++ v) = q (sf u ++ v) := by rw [q1]; show (if sl u ∈ sf u ++ v then q (sf u ++ v) else _) = _; rw [if_pos m1]
        have r2 : q (u' ++ v) = q (sf u' ++ v) := by rw [q2]; show (if sl u' ∈ sf u' ++ v then q (sf u' ++ v) else _) = _; rw [if_pos m2]
        have ne : sf u ++ v ≠ [] := by simp [hv]
        obtain ⟨g1, g2, _⟩ := sf_of ne ih
        show (q (u ++ v)).2 = (q (u' ++ v)).2 ∧ form (q (u ++ v)).1 = form (q (u' ++ v)).1
        rw [r1, r2]
        exact ⟨g1, g2⟩
      · have m1 : sl u ∉ sf u ++ v := fun z => (List.mem_append.mp z).elim h2 hb
        have m2 : sl u' ∉ sf u' ++ v := fun z => (List.mem_append.mp z).elim h2' (eb ▸ hb)
        have r1 : q (u ++ v) = (sf u ++ v, sl u) := by rw [q1]; show (if sl u ∈ sf u ++ v then q (sf u ++ v) else _) = _; rw [if_neg m1]
        have r2 : q (u' ++ v) = (sf u' ++ v, sl u') := by rw [q2]; show (if sl u' ∈ sf u' ++ v then q (sf u' ++ v) else _) = _; rw [if_neg m2]
        show (q (u ++ v)).2 = (q (u' ++ v)).2 ∧ form (q (u ++ v)).1 = form (q (u' ++ v)).1
        rw [r1, r2]
        exact ⟨eb, ih⟩
    -- what is ahead
    have Pp : pl (u ++ v) = pl (u' ++ v) ∧ form (pf (u ++ v)) = form (pf (u' ++ v)) := by
      obtain ⟨v', c, rfl⟩ : ∃ v' c, v = v' ++ [c] := ⟨v.dropLast, v.getLast hv, (List.dropLast_concat_getLast hv).symm⟩
      have hl : u.length + v'.length ≤ k := by simp at hk; omega
      have ih := form_app k (u := u) (u' := u') (v := v') hl h
      have rq : ∀ w : List Nat, q (w ++ (v' ++ [c])).reverse = if c ∈ w ++ v' then q (w ++ v').reverse else ((w ++ v').reverse, c) := fun w => by
        rw [← List.append_assoc, List.reverse_append, List.reverse_singleton]
        show (if c ∈ (w ++ v').reverse then q (w ++ v').reverse else ((w ++ v').reverse, c)) = _
        by_cases hc : c ∈ w ++ v'
        · rw [if_pos hc, if_pos (List.mem_reverse.mpr hc)]
        · rw [if_neg hc, if_neg fun z => hc (List.mem_reverse.mp z)]
      have mc := mem_of_form ih c
      by_cases hc : c ∈ u ++ v'
      · have ne : u ++ v' ≠ [] := by intro z; rw [z] at hc; cases hc
        obtain ⟨_, _, g1, g2, _⟩ := sf_of ne ih
        show (q (u ++ (v' ++ [c])).reverse).2 = (q (u' ++ (v' ++ [c])).reverse).2 ∧ form (q (u ++ (v' ++ [c])).reverse).1.reverse = form (q (u' ++ (v' ++ [c])).reverse).1.reverse
        rw [rq u, rq u', if_pos hc, if_pos (mc.mp hc)]
        exact ⟨g1, g2⟩
      · show (q (u ++ (v' ++ [c])).reverse).2 = (q (u' ++ (v' ++ [c])).reverse).2 ∧ form (q (u ++ (v' ++ [c])).reverse).1.reverse = form (q (u' ++ (v' ++ [c])).reverse).1.reverse
        rw [rq u, rq u', if_neg hc, if_neg fun z => hc (mc.mpr z)]
        refine ⟨rfl, ?_⟩
        rw [List.reverse_reverse, List.reverse_reverse]
        exact ih
    rw [S.1, S.2, Pp.1, Pp.2]
theorem form_right {u u' : List Nat} (v : List Nat) (h : form u = form u') : form (u ++ v) = form (u' ++ v) := form_app _ (Nat.le_refl _) h
theorem form_left {u u' : List Nat} (v : List Nat) (h : form u = form u') : form (v ++ u) = form (v ++ u') := by
  rw [form_rev_iff, List.reverse_append, List.reverse_append]
  exact form_right _ (form_rev_iff.mp h)
theorem form_cong {u u' v v' : List Nat} (h : form u = form u') (h' : form v = form v') : form (u ++ v) = form (u' ++ v') := (form_right v h).trans (form_left u' h')

/-! ### a plan of a form -/
def plan : Fm → List Nat
  | .e => []
  | .n l a b r => if plan l ≠ [] then plan l ++ [a, b] ++ plan r else [a]
theorem form_one (a : Nat) : form [a] = .n .e a a .e := by
  rw [form_eq (by simp)]
  show Fm.n (form []) a a (form []) = _
  rw [form_nil]
theorem form_plan_aux : ∀ (k : Nat) {w : List Nat}, w.length ≤ k → form (plan (form w)) = form w
  | 0, w, h => by
    have : w = [] := List.eq_nil_of_length_eq_zero (by omega)
    subst this
    rw [form_nil]; exact form_nil
  | k + 1, w, h => by
    by_cases hw : w = []
    · subst hw; rw [form_nil]; exact form_nil
    have h1 := pf_lt hw
    have h2 := sf_lt hw
    have ih1 := form_plan_aux k (w := pf w) (by omega)
    have ih2 := form_plan_aux k (w := sf w) (by omega)
    rw [form_eq hw]
    show form (if plan (form (pf w)) ≠ [] then plan (form (pf w)) ++ [pl w, sl w] ++ plan (form (sf w)) else [pl w]) = _
    generalize hP : plan (form (pf w)) = P at ih1 ⊢
    generalize hS : plan (form (sf w)) = S at ih2 ⊢
    by_cases hp : P = []
    · subst hp
      rw [if_neg (by simp), form_one]
      rw [form_nil] at ih1
      have e1 : pf w = [] := form_e.mp ih1.symm
      have all : ∀ c ∈ w, c = pl w := fun c hc => by
        rcases (mem_p hw).mp hc with z | z
        · exact z
        · rw [e1] at z; cases z
      have e2 : sl w = pl w := all _ ((mem_q hw).mpr (.inl rfl))
      have e3 : sf w = [] := by
        cases hs : sf w with
        | nil => rfl
        | cons c r =>
          have m : c ∈ sf w := by rw [hs]; exact List.mem_cons_self
          have : c = pl w := all c ((mem_q hw).mpr (.inr m))
          rw [this, ← e2] at m
          exact absurd m (sl_notin hw)
      rw [e1, e2, e3, form_nil]
    · rw [if_pos hp]
      have mP : ∀ c, c ∈ P ↔ c ∈ pf w := mem_of_form ih1
      have mS : ∀ c, c ∈ S ↔ c ∈ sf w := mem_of_form ih2
      have ne : P ++ [pl w, sl w] ++ S ≠ [] := by simp
      have qs : q (P ++ [pl w, sl w] ++ S) = (S, sl w) := by
        have e : P ++ [pl w, sl w] ++ S = (P ++ [pl w]) ++ sl w :: S := by simp
        rw [e]
        refine q_uniq (fun z => sl_notin hw ((mS _).mp z)) fun y hy => ?_
        have yw : y ∈ w := by
          rcases List.mem_append.mp hy with z | z
          · exact (mem_p hw).mpr (.inr ((mP y).mp z))
          · rw [List.mem_singleton] at z; exact (mem_p hw).mpr (.inl z)
        rcases (mem_q hw).mp yw with z | z
        · rw [z]; exact List.mem_cons_self
        · exact List.mem_cons_of_mem _ ((mS y).mpr z)
      have qp : q (P ++ [pl w, sl w] ++ S).reverse = (P.reverse, pl w) := by
        have e : (P ++ [pl w, sl w] ++ S).reverse = (S.reverse ++ [sl w]) ++ pl w :: P.reverse := by simp
        rw [e]
        refine q_uniq (fun z => pl_notin hw ((mP _).mp (List.mem_reverse.mp z))) fun y hy => ?_
        have yw : y ∈ w := by
          rcases List.mem_append.mp hy with z | z
          · exact (mem_q hw).mpr (.inr ((mS y).mp (List.mem_reverse.mp z)))
          · rw [List.mem_singleton] at z; exact (mem_q hw).mpr (.inl z)
        rcases (mem_p hw).mp yw with z | z
        · rw [z]; exact List.mem_cons_self
        · exact List.mem_cons_of_mem _ (List.mem_reverse.mpr ((mP y).mpr z))
      rw [form_eq ne]
      show Fm.n (form (q (P ++ [pl w, sl w] ++ S).reverse).1.reverse) (q (P ++ [pl w, sl w] ++ S).reverse).2 (q (P ++ [pl w, sl w] ++ S)).2 (form (q (P ++ [pl w, sl w] ++ S)).1) = _
      rw [qs, qp]
      show Fm.n (form P.reverse.reverse) (pl w) (sl w) (form S) = _
      rw [List.reverse_reverse, ih1, ih2]
theorem form_plan (w : List Nat) : form (plan (form w)) = form w := form_plan_aux _ (Nat.le_refl _)

/-! ### letters left out -/
theorem filt_s {f : Nat → Bool} {u u' : List Nat} (hu : u ≠ []) (h : form u = form u') (ih : form ((sf u).filter f) = form ((sf u').filter f)) (ne : u.filter f ≠ []) :
    u'.filter f ≠ [] ∧ sl (u.filter f) = sl (u'.filter f) ∧ form (sf (u.filter f)) = form (sf (u'.filter f)) := by
  obtain ⟨eb, et, _, _, hu'⟩ := sf_of hu h
  have key : ∀ {w : List Nat}, w ≠ [] → (f (sl w) = true → q (w.filter f) = ((sf w).filter f, sl w)) ∧ (f (sl w) = false → w.filter f ≠ [] → (sf w).filter f ≠ [] ∧ q (w.filter f) = q ((sf w).filter f)) ∧ (f (sl w) = false → (sf w).filter f ≠ [] → w.filter f ≠ []) := fun {w} hw => by
    obtain ⟨x, h1, h2, h3⟩ := q_spec hw
    have e : w.filter f = x.filter f ++ (sl w :: sf w).filter f := by conv => lhs; rw [h1]
                                                                      exact List.filter_append ..
    refine ⟨fun hf => ?_, fun hf hne => ?_, fun hf hne z => ?_⟩
    · rw [e, List.filter_cons_of_pos hf]
      refine q_uniq (fun z => h2 (List.mem_filter.mp z).1) fun y hy => ?_
      obtain ⟨hy1, hy2⟩ := List.mem_filter.mp hy
      rcases List.mem_cons.mp (h3 y hy1) with z | z
      · rw [z]; exact List.mem_cons_self
      · exact List.mem_cons_of_mem _ (List.mem_filter.mpr ⟨z, hy2⟩)
    · rw [List.filter_cons_of_neg (by rw [hf]; decide)] at e
      have sub : ∀ y ∈ x.filter f, y ∈ (sf w).filter f := fun y hy => by
        obtain ⟨hy1, hy2⟩ := List.mem_filter.mp hy
        rcases List.mem_cons.mp (h3 y hy1) with z | z
        · rw [z, hf] at hy2; cases hy2
        · exact List.mem_filter.mpr ⟨z, hy2⟩
      have ne2 : (sf w).filter f ≠ [] := by
        intro z
        apply hne
        rw [e, z, List.append_nil]
        cases hx : x.filter f with
        | nil => rfl
        | cons y r =>
          have := sub y (by rw [hx]; exact List.mem_cons_self)
          rw [z] at this; cases this
      exact ⟨ne2, by rw [e]; exact q_app ne2 sub⟩
    · rw [e, List.filter_cons_of_neg (by rw [hf]; decide)] at z
      exact hne (List.append_eq_nil_iff.mp z).2
  obtain ⟨a1, a2, _⟩ := key hu
  obtain ⟨b1, b2, b3⟩ := key hu'
  cases hf : f (sl u) with
  | true =>
    have hf' : f (sl u') = true := eb ▸ hf
    have r1 := a1 hf
    have r2 := b1 hf'
    refine ⟨?_, ?_⟩
    · intro z
      have : sl u' ∈ u'.filter f := List.mem_filter.mpr ⟨(mem_q hu').mpr (.inl rfl), hf'⟩
      rw [z] at this; cases this
    · show (q (u.filter f)).2 = (q (u'.filter f)).2 ∧ form (q (u.filter f)).1 = form (q (u'.filter f)).1
      rw [r1, r2]
      exact ⟨eb, ih⟩
  | false =>
    have hf' : f (sl u') = false := eb ▸ hf
    obtain ⟨n1, r1⟩ := a2 hf ne
    obtain ⟨g1, g2, _, _, n2⟩ := sf_of n1 ih
    have n3 := b3 hf' n2
    obtain ⟨_, r2⟩ := b2 hf' n3
    refine ⟨n3, ?_⟩
    show (q (u.filter f)).2 = (q (u'.filter f)).2 ∧ form (q (u.filter f)).1 = form (q (u'.filter f)).1
    rw [r1, r2]
    exact ⟨g1, g2⟩
theorem form_filter_aux (f : Nat → Bool) : ∀ (k : Nat) {u u' : List Nat}, u.length ≤ k → form u = form u' → form (u.filter f) = form (u'.filter f)
  | 0, u, u', hk, h => by
    have : u = [] := List.eq_nil_of_length_eq_zero (by omega)
    subst this
    rw [form_nil] at h
    rw [form_e.mp h.symm]
  | k + 1, u, u', hk, h => by
    by_cases hu : u = []
    · subst hu
      rw [form_nil] at h
      rw [form_e.mp h.symm]
    by_cases ne : u.filter f = []
    · -- all letters are left out
      have : u'.filter f = [] := by
        cases hx : u'.filter f with
        | nil => rfl
        | cons y r =>
          have m : y ∈ u'.filter f := by rw [hx]; exact List.mem_cons_self
          obtain ⟨m1, m2⟩ := List.mem_filter.mp m
          have : y ∈ u.filter f := List.mem_filter.mpr ⟨(mem_of_form h y).mpr m1, m2⟩
          rw [ne] at this; cases this
      rw [ne, this]
    · obtain ⟨_, et, _, _, hu'⟩ := sf_of hu h
      have l1 := sf_lt hu
      obtain ⟨n2, s1, s2⟩ := filt_s hu h (form_filter_aux f k (by omega) et) ne
      have hr : form u.reverse = form u'.reverse := form_rev_iff.mp h
      obtain ⟨_, er, _⟩ := sf_of (rev_ne hu) hr
      have l2 := sf_lt (rev_ne hu)
      rw [List.length_reverse] at l2
      obtain ⟨n3, p1, p2⟩ := filt_s (rev_ne hu) hr (form_filter_aux f k (by omega) er) (by rw [List.filter_reverse]; exact rev_ne ne)
      rw [form_eq ne, form_eq n2, s1, s2]
      have g1 : pl (u.filter f) = pl (u'.filter f) := by
        unfold pl
        rw [← List.filter_reverse, ← List.filter_reverse]; exact p1
      have g2 : form (pf (u.filter f)) = form (pf (u'.filter f)) := by
        unfold pf
        rw [form_reverse, form_reverse, ← List.filter_reverse, ← List.filter_reverse, p2]
      rw [g1, g2]
theorem form_filter (f : Nat → Bool) {u u' : List Nat} (h : form u = form u') : form (u.filter f) = form (u'.filter f) := form_filter_aux f _ (Nat.le_refl _) h

/-! ### renamed -/
def mapF (g : Nat → Nat) : Fm → Fm
  | .e => .e
  | .n l a b r => .n (mapF g l) (g a) (g b) (mapF g r)
theorem q_map {g : Nat → Nat} : ∀ {w : List Nat}, w ≠ [] → (∀ x ∈ w, ∀ y ∈ w, g x = g y → x = y) → q (w.map g) = ((sf w).map g, g (sl w))
  | [], h, _ => absurd rfl h
  | c :: r, _, hg => by
    have mc : g c ∈ r.map g ↔ c ∈ r := by
      constructor
      · intro h
        obtain ⟨y, hy, e⟩ := List.mem_map.mp h
        rw [hg c List.mem_cons_self y (List.mem_cons_of_mem _ hy) e.symm]; exact hy
      · exact fun h => List.mem_map.mpr ⟨c, h, rfl⟩
    show (if g c ∈ r.map g then q (r.map g) else (r.map g, g c)) = ((if c ∈ r then q r else (r, c)).1.map g, g (if c ∈ r then q r else (r, c)).2)
    by_cases hc : c ∈ r
    · rw [if_pos (mc.mpr hc), if_pos hc]
      have hr : r ≠ [] := by rintro rfl; cases hc
      rw [q_map hr fun x hx y hy => hg x (List.mem_cons_of_mem _ hx) y (List.mem_cons_of_mem _ hy)]
      rfl
    · rw [if_neg fun z => hc (mc.mp z), if_neg hc]
theorem form_map_aux {g : Nat → Nat} : ∀ (k : Nat) {w : List Nat}, w.length ≤ k → (∀ x ∈ w, ∀ y ∈ w, g x = g y → x = y) → form (w.map g) = mapF g (form w)
  | 0, w, h, _ => by
    have : w = [] := List.eq_nil_of_length_eq_zero (by omega)
    subst this
    rw [List.map_nil, form_nil]; rfl
  | k + 1, w, h, hg => by
    by_cases hw : w = []
    · subst hw; rw [List.map_nil, form_nil]; rfl
    have h1 := pf_lt hw
    have h2 := sf_lt hw
    have hr : ∀ x ∈ w.reverse, ∀ y ∈ w.reverse, g x = g y → x = y := fun x hx y hy => hg x (List.mem_reverse.mp hx) y (List.mem_reverse.mp hy)
    have q1 := q_map hw hg
    have q2 := q_map (rev_ne hw) hr
    have ne : w.map g ≠ [] := by simpa using hw
    rw [form_eq hw, form_eq ne]
    have e1 : sl (w.map g) = g (sl w) := by show (q _).2 = _; rw [q1]
    have e2 : sf (w.map g) = (sf w).map g := by show (q _).1 = _; rw [q1]
    have e3 : pl (w.map g) = g (pl w) := by show (q _).2 = _; rw [← List.map_reverse, q2]; rfl
    have e4 : pf (w.map g) = (pf w).map g := by show (q _).1.reverse = _; rw [← List.map_reverse, q2]; exact List.map_reverse.symm
    rw [e1, e2, e3, e4]
    have i1 := form_map_aux k (w := pf w) (by omega) fun x hx y hy => hg x ((mem_p hw).mpr (.inr hx)) y ((mem_p hw).mpr (.inr hy))
    have i2 := form_map_aux k (w := sf w) (by omega) fun x hx y hy => hg x ((mem_q hw).mpr (.inr hx)) y ((mem_q hw).mpr (.inr hy))
    rw [i1, i2]; rfl
theorem form_map {g : Nat → Nat} {w : List Nat} (hg : ∀ x ∈ w, ∀ y ∈ w, g x = g y → x = y) : form (w.map g) = mapF g (form w) := form_map_aux _ (Nat.le_refl _) hg

/-! ### a plan between itself -/
theorem pf_app {w v : List Nat} (hw : w ≠ []) (h : ∀ c ∈ v, c ∈ w) : pf (w ++ v) = pf w ∧ pl (w ++ v) = pl w := by
  have : q (w ++ v).reverse = q w.reverse := by
    rw [List.reverse_append]
    exact q_app (rev_ne hw) fun y hy => List.mem_reverse.mpr (h y (List.mem_reverse.mp hy))
  unfold pf pl sf sl
  rw [this]
  exact ⟨rfl, rfl⟩
theorem sf_app {w v : List Nat} (hw : w ≠ []) (h : ∀ c ∈ v, c ∈ w) : sf (v ++ w) = sf w ∧ sl (v ++ w) = sl w := by
  have : q (v ++ w) = q w := q_app hw h
  unfold sf sl
  rw [this]
  exact ⟨rfl, rfl⟩
/-- two plans with the same letters: the first half of the one, the last half of the other -/
theorem form_two {w v : List Nat} (x : List Nat) (hw : w ≠ []) (hx : ∀ c ∈ x, c ∈ w) (h : ∀ c, c ∈ v ↔ c ∈ w) : form (w ++ x ++ v) = .n (form (pf w)) (pl w) (sl v) (form (sf v)) := by
  have hv : v ≠ [] := by
    rintro rfl
    cases w with
    | nil => exact hw rfl
    | cons c r => have := (h c).mpr List.mem_cons_self; cases this
  have ne : w ++ x ++ v ≠ [] := by simp [hw]
  rw [form_eq ne]
  have h1 := pf_app hw (v := x ++ v) fun c hc => (List.mem_append.mp hc).elim (hx c) fun z => (h c).mp z
  have h2 := sf_app hv (v := w ++ x) fun c hc => (List.mem_append.mp hc).elim (fun z => (h c).mpr z) fun z => (h c).mpr (hx c z)
  rw [← List.append_assoc] at h1
  rw [h1.1, h1.2, h2.1, h2.2]
theorem form_within {w x : List Nat} (hx : ∀ c ∈ x, c ∈ w) : form (w ++ x ++ w) = form w := by
  by_cases hw : w = []
  · subst hw
    have : x = [] := by
      cases x with
      | nil => rfl
      | cons c r => have := hx c List.mem_cons_self; cases this
    subst this; rfl
  · rw [form_two x hw hx fun _ => Iff.rfl, form_eq hw]
theorem form_twice (w : List Nat) : form (w ++ w) = form w := by
  have := form_within (w := w) (x := []) fun c hc => nomatch hc
  rwa [List.append_nil] at this
/-- what begins with it, ends with it: exactly those of which the letters are there -/
theorem within_iff {w x : List Nat} : form (w ++ x ++ w) = form w ↔ ∀ c ∈ x, c ∈ w := by
  constructor
  · intro h c hc
    exact (mem_of_form h c).mp (List.mem_append_left _ (List.mem_append_right _ hc))
  · exact form_within

/-! ### how deep, how long -/
def dep : Fm → Nat
  | .e => 0
  | .n l _ _ r => max (dep l) (dep r) + 1
theorem dep_le : ∀ (A : List Nat) {w : List Nat}, (∀ c ∈ w, c ∈ A) → dep (form w) ≤ A.length
  | [], w, h => by
    cases w with
    | nil => rw [form_nil]; exact Nat.le_refl _
    | cons c r => have := h c List.mem_cons_self; cases this
  | a :: A, w, h => by
    by_cases hw : w = []
    · subst hw; rw [form_nil]; exact Nat.zero_le _
    rw [form_eq hw]
    show max (dep (form (pf w))) (dep (form (sf w))) + 1 ≤ A.length + 1
    -- the letter that is missing changes places with the head
    have sub : ∀ (t : List Nat) (z : Nat), z ∈ w → z ∉ t → (∀ c ∈ t, c ∈ w) → ∃ A' : List Nat, A'.length = A.length ∧ ∀ c ∈ t, c ∈ A' := fun t z hz hzt ht => by
      rcases List.mem_cons.mp (h z hz) with e | e
      · refine ⟨A, rfl, fun c hc => ?_⟩
        rcases List.mem_cons.mp (h c (ht c hc)) with e' | e'
        · rw [e', ← e] at hc; exact absurd hc hzt
        · exact e'
      · refine ⟨a :: A.erase z, ?_, fun c hc => ?_⟩
        · rw [List.length_cons, List.length_erase_of_mem e]
          have := List.length_pos_of_mem e
          omega
        · rcases List.mem_cons.mp (h c (ht c hc)) with e' | e'
          · rw [e']; exact List.mem_cons_self
          · refine List.mem_cons_of_mem _ ?_
            rw [List.mem_erase_of_ne]; exact e'
            rintro rfl; exact hzt hc
    obtain ⟨A1, l1, m1⟩ := sub (pf w) (pl w) ((mem_p hw).mpr (.inl rfl)) (pl_notin hw) fun c hc => (mem_p hw).mpr (.inr hc)
    obtain ⟨A2, l2, m2⟩ := sub (sf w) (sl w) ((mem_q hw).mpr (.inl rfl)) (sl_notin hw) fun c hc => (mem_q hw).mpr (.inr hc)
    have i1 : dep (form (pf w)) ≤ A1.length := dep_le A1 m1
    have i2 : dep (form (sf w)) ≤ A2.length := dep_le A2 m2
    have : max (dep (form (pf w))) (dep (form (sf w))) ≤ A.length := Nat.max_le.mpr ⟨by omega, by omega⟩
    omega
termination_by A => A.length
theorem plan_len : ∀ f : Fm, (plan f).length + 2 ≤ 2 ^ (dep f + 1)
  | .e => Nat.le_refl _
  | .n l a b r => by
    have h1 := plan_len l
    have h2 := plan_len r
    have m1 : 2 ^ (dep l + 1) ≤ 2 ^ (max (dep l) (dep r) + 1) := Nat.pow_le_pow_right (by decide) (by omega)
    have m2 : 2 ^ (dep r + 1) ≤ 2 ^ (max (dep l) (dep r) + 1) := Nat.pow_le_pow_right (by decide) (by omega)
    have e : 2 ^ (dep (.n l a b r) + 1) = 2 * 2 ^ (max (dep l) (dep r) + 1) := by
      show 2 ^ (max (dep l) (dep r) + 1 + 1) = _
      rw [Nat.pow_succ]; omega
    rw [e]
    show (if plan l ≠ [] then plan l ++ [a, b] ++ plan r else [a]).length + 2 ≤ _
    split
    · simp; omega
    · simp; omega
end FM

end
section
set_option Elab.async false
set_option linter.all false
set_option maxRecDepth 100000
set_option maxHeartbeats 1000000
/-! E1: evaluating evaluators. -/
namespace DD
open PySem PySem.Spec PyProof.Rows L2 RZ
def Slot.np : Slot → Bool
  | .par _ => false
  | _ => true
@[simp] theorem np_emp : Slot.np .emp = true := rfl
@[simp] theorem np_val {d : D} : Slot.np (.val d) = true := rfl
@[simp] theorem np_liv {c : Cont} : Slot.np (.liv c) = true := rfl
@[simp] theorem np_par {c : Cont} : Slot.np (.par c) = false := rfl
section
variable {L : Env} {ea eb ec ev : EV} {eo oa ob : EO} {es : ES} {ta tb tc : ET} {sa sb sv : SV} {eg : EG} {g : D → D → Option D} {i : Nat}
@[simp] theorem x_sNx : sNx L = some (.nx L) := (rfl)
@[simp] theorem x_sSeq : sSeq sa sb L = (sa L).bind fun o => match o with
  | .nx L1 => sb L1
  | o => some o := (rfl)
@[simp] theorem x_sNo : sNo L = none := (rfl)
@[simp] theorem x_sBk : sBk L = some (.bk L) := (rfl)
@[simp] theorem x_sCt : sCt L = some (.ct L) := (rfl)
@[simp] theorem x_sRet : sRet ev L = (ev L).map fun p => .rt (.v p.1) p.2 := (rfl)
@[simp] theorem x_sRetO : sRetO eo L = (eo L).map fun p => .rt (.o p.1) p.2 := (rfl)
@[simp] theorem x_sRetN : sRetN L = some (.rt (.v .non) L) := (rfl)
@[simp] theorem x_sRetL : sRetL i L = match L[i]? with
  | some (.liv c) => some (.rt (.o c) L)
  | _ => none := (rfl)
@[simp] theorem x_sIf : sIf tc sa sb L = (tc L).bind fun p => if p.1 = true then sa p.2 else sb p.2 := (rfl)
@[simp] theorem x_sEx : sEx ev L = (ev L).map fun p => .nx p.2 := (rfl)
@[simp] theorem x_canPut : canPut L i = match L[i]? with
  | some s => s.np
  | none => false := by
  unfold canPut
  cases L[i]? with
  | none => rfl
  | some s => cases s <;> rfl
@[simp] theorem x_noPar0 : noPar L [] = true := rfl
theorem x_noPar {v : Nat} {vs : List Nat} : noPar L (v :: vs) = ((match L[v]? with
  | some s => s.np
  | none => true) && noPar L vs) := by
  unfold noPar
  rw [List.all_cons]
  congr 1
  cases L[v]? with
  | none => rfl
  | some s => cases s <;> rfl
@[simp] theorem x_gN {d : D} : gN i d L = if canPut L i = true then some (L.set i (.val d)) else none := (rfl)
@[simp] theorem x_sAs {g : GV} : sAs g ev L = (ev L).bind fun p => (g p.1 p.2).map .nx := (rfl)
@[simp] theorem x_sOw : sOw i eo L = (eo L).bind fun p => if canPut p.2 i = true then some (.nx (p.2.set i (.liv p.1))) else none := (rfl)
@[simp] theorem x_eC {d : D} : eC d L = some (d, L) := (rfl)
@[simp] theorem x_eMv : eMv i L = match L[i]? with
  | some (.liv (.l xs)) => some (.lst xs, L.set i (.val (.lst xs)))
  | some (.val d) => some (d, L)
  | _ => none := (rfl)
@[simp] theorem x_sqL : sqL i L = match L[i]? with
  | some (.liv (.l xs)) => some (.l xs, L)
  | some (.par (.l xs)) => some (.l xs, L)
  | some (.liv (.m xs)) => some (.m xs, L)
  | some (.par (.m xs)) => some (.m xs, L)
  | some (.val (.lst xs)) => some (.l xs, L)
  | some (.val (.tup xs)) => some (.t xs, L)
  | some (.val (.str l)) => some (.s l, L)
  | some (.val d) => some (.v d, L)
  | _ => none := (rfl)
@[simp] theorem x_sqV : sqV ev L = match ev L with
  | some (.lst xs, L') => some (.l xs, L')
  | some (.tup xs, L') => some (.t xs, L')
  | some (.str l, L') => some (.s l, L')
  | some (d, L') => some (.v d, L')
  | none => none := (rfl)
@[simp] theorem x_sqO : sqO eo L = match eo L with
  | some (.l xs, L') => some (.l xs, L')
  | some (.m kvs, L') => some (.m kvs, L')
  | _ => none := (rfl)
@[simp] theorem x_eFz : eFz eo L = match eo L with
  | some (.l xs, L') => some (.lst xs, L')
  | _ => none := (rfl)
@[simp] theorem x_eOp : eOp g ea eb L = (ea L).bind fun p => (eb p.2).bind fun q => (g p.1 q.1).map fun d => (d, q.2) := (rfl)
@[simp] theorem x_eOpS {g : D → Sq → Option D} : eOpS g ea es L = (ea L).bind fun p => (es p.2).bind fun q => (g p.1 q.1).map fun d => (d, q.2) := (rfl)
@[simp] theorem x_etB : etB ev L = match ev L with
  | some (.bl b, L') => some (b, L')
  | _ => none := (rfl)
@[simp] theorem x_tAn : tAn ta tb L = (ta L).bind fun p => if p.1 = true then tb p.2 else some (false, p.2) := (rfl)
@[simp] theorem x_tOr : tOr' ta tb L = (ta L).bind fun p => if p.1 = true then some (true, p.2) else tb p.2 := (rfl)
@[simp] theorem x_tNo : tNo ta L = (ta L).map fun p => (!p.1, p.2) := (rfl)
@[simp] theorem x_eIf : eIf tc ea eb L = (tc L).bind fun p => if p.1 = true then ea p.2 else eb p.2 := (rfl)
@[simp] theorem x_eAnd : eAnd ea eb L = match ea L with
  | some (.bl true, L1) => eb L1
  | some (.bl false, L1) => some (.bl false, L1)
  | _ => none := (rfl)
@[simp] theorem x_eOr : eOr ea eb L = match ea L with
  | some (.bl false, L1) => eb L1
  | some (.bl true, L1) => some (.bl true, L1)
  | _ => none := (rfl)
@[simp] theorem x_eNot : eNot ea L = match ea L with
  | some (.bl b, L1) => some (.bl (!b), L1)
  | _ => none := (rfl)
@[simp] theorem x_e1 {g : Sq → Option D} : e1 g es L = (es L).bind fun p => (g p.1).map fun d => (d, p.2) := (rfl)
@[simp] theorem x_o1 {g : Sq → Option Cont} : o1 g es L = (es L).bind fun p => (g p.1).map fun d => (d, p.2) := (rfl)
@[simp] theorem x_eNeg : eNeg ea L = match ea L with
  | some (.int i, L') => some (.int (-i), L')
  | _ => none := (rfl)
@[simp] theorem x_eIsi {Ts : List String} : eIsi Ts ea L = (ea L).map fun p => (.bl (Ts.any fun T => isiS T p.1), p.2) := (rfl)
@[simp] theorem x_eM1 {g : List Nat → Sq → Option D} : eM1 g ea es L = (ea L).bind fun p => (es p.2).bind fun q => match p.1 with
  | .str l => (g l q.1).map fun d => (d, q.2)
  | _ => none := (rfl)
@[simp] theorem x_rdS : rdS L i = (sqL i L).map (·.1) := (rfl)
@[simp] theorem x_eIxN : eIxN i eb L = (rdS L i).bind fun _ => (eb L).bind fun q => (rdS q.2 i).bind fun s => (gIxS s q.1).map fun d => (d, q.2) := (rfl)
@[simp] theorem x_pNo : pNo L = some (none, L) := (rfl)
@[simp] theorem x_pOf : pOf ev L = match ev L with
  | some (.int i, L') => some (some i, L')
  | _ => none := (rfl)
@[simp] theorem x_eSl {el eh : Env → Option (Option Int × Env)} : eSl ea el eh L = (ea L).bind fun p => (el p.2).bind fun q => (eh q.2).bind fun r => (gSl p.1 q.1 r.1).map fun d => (d, r.2) := (rfl)
@[simp] theorem x_eRev : eRev ea L = (ea L).bind fun p => (gRev p.1).map fun d => (d, p.2) := (rfl)
@[simp] theorem x_aNil : aNil L = some ([], L) := (rfl)
@[simp] theorem x_aCons {ex : EA} : aCons ev ex L = (ev L).bind fun p => (ex p.2).map fun q => (p.1 :: q.1, q.2) := (rfl)
@[simp] theorem x_eTup {ex : EA} : eTup ex L = (ex L).bind fun p => if p.1.length ≤ 1000 then some (.tup p.1, p.2) else none := (rfl)
@[simp] theorem x_oLst {ex : EA} : oLst ex L = (ex L).bind fun p => if p.1.length ≤ 1000 then some (.l p.1, p.2) else none := (rfl)
@[simp] theorem x_oDic : oDic L = some (.m [], L) := (rfl)
@[simp] theorem x_oOr : oOr oa ob L = (oa L).bind fun p => match p.1 with
  | .l [] => ob p.2
  | .l (x :: xs) => some (.l (x :: xs), p.2)
  | _ => none := (rfl)
@[simp] theorem x_gNil0 : gNil0 L = some ([], L) := (rfl)
@[simp] theorem x_gV : gV ev eg L = (ev L).bind fun p => (eg p.2).map fun q => (.v p.1 :: q.1, q.2) := (rfl)
@[simp] theorem x_gO : gO eo eg L = (eo L).bind fun p => (eg p.2).map fun q => (.o p.1 :: q.1, q.2) := (rfl)
@[simp] theorem x_gS : gS i eg L = (rdS L i).bind fun _ => (eg L).map fun q => (.s i :: q.1, q.2) := (rfl)
@[simp] theorem x_callR {F : Fn} : callR F eg L = (eg L).bind fun p => if few p.1 = true then (argsOf p.2 p.1).bind fun as => (F as).map fun r => (r.1, backIn p.2 p.1 r.2) else none := (rfl)
@[simp] theorem x_eCall {F : Fn} : eCall F eg L = match callR F eg L with
  | some (.v d, L') => some (d, L')
  | _ => none := (rfl)
@[simp] theorem x_oCall {F : Fn} : oCall F eg L = match callR F eg L with
  | some (.o c, L') => some (c, L')
  | _ => none := rfl
def noC (as : List AV) : Bool := decide ((as.filter AV.chs).length ≤ 0)
@[simp] theorem x_few0 : few [] = true := (rfl)
@[simp] theorem x_fewV {d : D} {as : List AV} : few (.v d :: as) = few as := (rfl)
@[simp] theorem x_fewS {i : Nat} {as : List AV} : few (.s i :: as) = noC as := by
  show decide ((as.filter AV.chs).length + 1 ≤ 1) = decide ((as.filter AV.chs).length ≤ 0)
  congr 1
  exact propext ⟨fun h => by omega, fun h => by omega⟩
@[simp] theorem x_fewO {c : Cont} {as : List AV} : few (.o c :: as) = noC as := by
  show decide ((as.filter AV.chs).length + 1 ≤ 1) = decide ((as.filter AV.chs).length ≤ 0)
  congr 1
  exact propext ⟨fun h => by omega, fun h => by omega⟩
@[simp] theorem x_noC0 : noC [] = true := (rfl)
@[simp] theorem x_noCV {d : D} {as : List AV} : noC (.v d :: as) = noC as := (rfl)
@[simp] theorem x_args0 : argsOf L [] = some [] := (rfl)
@[simp] theorem x_argsV {d : D} {r : List AV} : argsOf L (.v d :: r) = (argsOf L r).map (Arg.v d :: ·) := (rfl)
@[simp] theorem x_argsS {i : Nat} {r : List AV} : argsOf L (.s i :: r) = (slotC L i).bind fun c => (argsOf L r).map (Arg.c c :: ·) := (rfl)
@[simp] theorem x_argsO {c : Cont} {r : List AV} : argsOf L (.o c :: r) = (argsOf L r).map (Arg.c c :: ·) := (rfl)
@[simp] theorem x_back0 {cs : List Cont} : backIn L [] cs = L := (rfl)
@[simp] theorem x_backV {d : D} {r : List AV} {cs : List Cont} : backIn L (.v d :: r) cs = backIn L r cs := (rfl)
@[simp] theorem x_backS {i : Nat} {r : List AV} {c : Cont} {cs : List Cont} : backIn L (.s i :: r) (c :: cs) = setC L i c := (rfl)
@[simp] theorem x_backO {c : Cont} {r : List AV} {cs : List Cont} : backIn L (.o c :: r) cs = L := (rfl)
@[simp] theorem x_slotC : slotC L i = (L[i]?).bind contOf := (rfl)
@[simp] theorem x_contL {c : Cont} : contOf (.liv c) = some c := (rfl)
@[simp] theorem x_contP {c : Cont} : contOf (.par c) = some c := (rfl)
@[simp] theorem x_contV {d : D} : contOf (.val d) = none := (rfl)
@[simp] theorem x_contE : contOf .emp = none := (rfl)
@[simp] theorem x_setC {c : Cont} : setC L i c = match L[i]? with
  | some (.liv _) => L.set i (.liv c)
  | some (.par _) => L.set i (.par c)
  | _ => L := (rfl)
@[simp] theorem x_sPut : sPut i eb ev L = (ev L).bind fun p => (slotC p.2 i).bind fun _ => (eb p.2).bind fun q => (slotC q.2 i).bind fun c => (putC c q.1 p.1).map fun c' => .nx (setC q.2 i c') := (rfl)
@[simp] theorem x_sAug : sAug g i ev L = match L[i]? with
  | some (.val x) => (ev L).bind fun p => (g x p.1).bind fun z => if canPut p.2 i = true then some (.nx (p.2.set i (.val z))) else none
  | _ => none := (rfl)
@[simp] theorem x_gNl0 : gNl [] L = some L := (rfl)
@[simp] theorem x_gCn {g : GV} {gs : GVs} {d : D} {ds : List D} : gCn g gs (d :: ds) L = (g d L).bind fun L1 => gs ds L1 := (rfl)
@[simp] theorem x_gUt {n : Nat} {gs : GVs} {ds : List D} : gU n gs (.tup ds) L = if ds.length = n then gs ds L else none := (rfl)
@[simp] theorem x_gUl {n : Nat} {gs : GVs} {ds : List D} : gU n gs (.lst ds) L = if ds.length = n then gs ds L else none := (rfl)
@[simp] theorem x_putAVv {d : D} : putAV L i (.v d) = if canPut L i = true then some (L.set i (.val d)) else none := (rfl)
@[simp] theorem x_putAVo {c : Cont} : putAV L i (.o c) = if canPut L i = true then some (L.set i (.liv c)) else none := (rfl)
@[simp] theorem x_putAll0 : putAll L [] [] = some L := (rfl)
@[simp] theorem x_putAll {i : Nat} {is : List Nat} {a : AV} {as : List AV} : putAll L (i :: is) (a :: as) = (putAV L i a).bind fun L1 => putAll L1 is as := (rfl)
@[simp] theorem x_sPar {is : List Nat} : sPar is eg L = (eg L).bind fun p => (putAll p.2 is p.1).map .nx := (rfl)
@[simp] theorem x_itV : itV ev L = (ev L).bind fun p => (itemsD p.1).map fun ds => (ds, p.2) := (rfl)
@[simp] theorem x_itl {xs : List D} : itemsD (.lst xs) = some xs := (rfl)
@[simp] theorem x_itt {xs : List D} : itemsD (.tup xs) = some xs := (rfl)
@[simp] theorem x_its {l : List Nat} : itemsD (.str l) = some (l.map fun c => .str [c]) := (rfl)
@[simp] theorem x_itc {l : List Int} : itemsD (.scr l) = some (l.map D.int) := (rfl)
@[simp] theorem x_itR1 : itR1 ev L = match ev L with
  | some (.int j, L') => if -(2 ^ 62) ≤ j ∧ j < 2 ^ 62 then some ((List.range j.toNat).map fun (k : Nat) => D.int (0 + k), L') else none
  | _ => none := (rfl)
@[simp] theorem x_itEn : itEn ev L = match ev L with
  | some (.lst xs, L') => some ((xs.zipIdx).map fun p => D.tup [.int (p.2 : Nat), p.1], L')
  | some (.scr ns, L') => some (((ns.map D.int).zipIdx).map fun p => D.tup [.int (p.2 : Nat), p.1], L')
  | _ => none := (rfl)
@[simp] theorem x_itZ : itZ ev eb L = (ev L).bind fun p => (eb p.2).bind fun r => match p.1, r.1 with
  | .lst xs, .lst ys => some ((xs.zip ys).map fun p => D.tup [p.1, p.2], r.2)
  | .tup xs, .tup ys => some ((xs.zip ys).map fun p => D.tup [p.1, p.2], r.2)
  | _, _ => none := (rfl)
@[simp] theorem x_etT : etT L = some (true, L) := (rfl)
@[simp] theorem x_oLc {it : EI} {g : GV} {tt : ET} {vs : List Nat} : oLc it g tt ev vs L = (it L).bind fun p => if (noPar p.2 vs && decide (p.1.length ≤ 100000)) = true then (lcD g tt ev vs p.1 (wipeE p.2 vs)).map fun r => (.l r.1, restE r.2 p.2 vs) else none := (rfl)
@[simp] theorem x_sFor {it : EI} {g : GV} : sFor it g sv L = (it L).bind fun p => forD g sv p.1 p.2 := (rfl)
@[simp] theorem x_forD0 {g : GV} : forD g sv [] L = some (.nx L) := (rfl)
@[simp] theorem x_lcD0 {g : GV} {vs : List Nat} : lcD g ta ev vs [] L = some ([], L) := (rfl)
@[simp] theorem x_eLS : eLS ea L = (ea L).bind fun p => (setD p.1).map fun ks => (.int ks.length, p.2) := (rfl)
@[simp] theorem x_oSS : oSS ea L = (ea L).bind fun p => (setD p.1).map fun ks => (.l ((sortS ks).map D.str), p.2) := (rfl)
@[simp] theorem x_setD {l : List Nat} : setD (.str l) = if l.length ≤ 1000 then some (dedup (chars l)) else none := (rfl)
@[simp] theorem x_lenS {l : List Nat} : gLen (.s l) = some (.int (l.length : Nat)) := (rfl)
@[simp] theorem x_lenT {l : List D} : gLen (.t l) = some (.int (l.length : Nat)) := (rfl)
@[simp] theorem x_lenL {l : List D} : gLen (.l l) = some (.int (l.length : Nat)) := (rfl)
@[simp] theorem x_wipe0 : wipeE L [] = L := (rfl)
@[simp] theorem x_wipe1 {v : Nat} {vs : List Nat} : wipeE L (v :: vs) = (wipeE L vs).set v .emp := (rfl)
@[simp] theorem x_rest0 {L1 : Env} : restE L L1 [] = L := (rfl)
@[simp] theorem x_rest1 {L1 : Env} {v : Nat} {vs : List Nat} : restE L L1 (v :: vs) = (restE L L1 vs).set v (L1.getD v .emp) := (rfl)
@[simp] theorem x_eqS {a b : List Nat} : gEq (.str a) (.str b) = some (.bl (decide (a = b))) := (rfl)
@[simp] theorem x_eqI {a b : Int} : gEq (.int a) (.int b) = some (.bl (decide (a = b))) := (rfl)
@[simp] theorem x_neS {a b : List Nat} : gNe (.str a) (.str b) = some (.bl (!decide (a = b))) := (rfl)
@[simp] theorem x_neI {a b : Int} : gNe (.int a) (.int b) = some (.bl (!decide (a = b))) := (rfl)
@[simp] theorem x_inS {neg : Bool} {c : Nat} {l : List Nat} : gIn neg (.str [c]) (.s l) = some (.bl (if neg then !decide (c ∈ l) else decide (c ∈ l))) := (rfl)
@[simp] theorem x_revS {l : List Nat} : gRev (.str l) = some (.str l.reverse) := (rfl)
@[simp] theorem x_gIadd {a b : List Nat} : gIadd (.str a) (.str b) = if a.length + b.length ≤ 16777216 then some (.str (a ++ b)) else none := (rfl)
@[simp] theorem x_findS {l : List Nat} {c : Nat} : gFind l (.s [c]) = some (.int (match fst1 c l with | some i => (i : Int) | none => -1)) := (rfl)
@[simp] theorem x_rfindS {l : List Nat} {c : Nat} : gRfind l (.s [c]) = some (.int (match lst1 c l with | some i => (i : Int) | none => -1)) := (rfl)
@[simp] theorem x_slS {l : List Nat} {lo hi : Option Int} : gSl (.str l) lo hi = some (.str (cutL l lo hi)) := (rfl)
end
/-- a def's answer: by cases of the arguments -/
theorem le_fn {G F : Fn} (h : ∀ as r, G as = some r → F as = some r) : Le G F := h
end DD

end
section
set_option Elab.async false
set_option linter.all false
set_option maxRecDepth 100000
set_option maxHeartbeats 4000000
namespace DG
open PySem PySem.Spec PyProof.Rows L2 RZ DD
noncomputable def B__law_half (c__law_all : Fn) : SV := (sSeq (sRet (eIf (etB (eOp gGt (eMv 0) (eC (.int 0)))) (eOp gMul (eMv 0) (eCall c__law_all (gV (eOp gSub (eMv 0) (eC (.int 1))) gNil0))) (eC (.int 1)))) sNx)
noncomputable def B__law_all (c__law_half : Fn) : SV := (sSeq (sRet (eIf (etB (eOp gGt (eMv 0) (eC (.int 0)))) (eOp gMul (eCall c__law_half (gV (eMv 0) gNil0)) (eCall c__law_half (gV (eMv 0) gNil0))) (eC (.int 1)))) sNx)
noncomputable def B__law_back (c__law_back : Fn) : SV := (sSeq (sRet (eIf (etB (eOp gNe (eMv 0) (eTup aNil))) (eTup (aCons (eCall c__law_back (gV (eIxN 0 (eC (.int 3))) gNil0)) (aCons (eIxN 0 (eC (.int 2))) (aCons (eIxN 0 (eC (.int 1))) (aCons (eCall c__law_back (gV (eIxN 0 (eC (.int 0))) gNil0)) aNil))))) (eTup aNil))) sNx)
noncomputable def B__law_news : SV := (sSeq (sAs (gN 1) (eC (.str []))) (sSeq (sFor (itV (eMv 0)) (gN 2) (sSeq (sAs (gN 1) (eOp gAdd (eMv 1) (eIf (etB (eOpS (gIn true) (eMv 2) (sqL 1))) (eMv 2) (eC (.str []))))) sNx)) (sSeq (sRet (eMv 1)) sNx)))
noncomputable def B__law_last_new : SV := (sSeq (sAs (gN 1) (e1 gMax (sqO (oLc (itV (eFz (oSS (eMv 0)))) (gN 2) etT (eM1 gFind (eMv 0) (sqL 2)) [2])))) (sSeq (sRet (eTup (aCons (eSl (eMv 0) pNo (pOf (eMv 1))) (aCons (eIxN 0 (eMv 1)) aNil)))) sNx))
noncomputable def B__law_form (c__law_last_new c__law_form : Fn) : SV := (sSeq (sIf (etB (eOp gEq (eMv 0) (eC (.str [])))) (sSeq (sRet (eTup aNil)) sNx) sNx) (sSeq (sPar [1, 2] (gV (eCall c__law_last_new (gV (eMv 0) gNil0)) (gV (eCall c__law_last_new (gV (eRev (eMv 0)) gNil0)) gNil0))) (sSeq (sRet (eTup (aCons (eCall c__law_form (gV (eIxN 1 (eC (.int 0))) gNil0)) (aCons (eIxN 1 (eC (.int 1))) (aCons (eIxN 2 (eC (.int 1))) (aCons (eCall c__law_form (gV (eRev (eIxN 2 (eC (.int 0)))) gNil0)) aNil)))))) sNx)))
noncomputable def B__law_stage (c__law_news : Fn) : SV := (sSeq (sRet (eSl (eMv 0) pNo (pOf (eM1 gFind (eMv 0) (sqV (eOp gIxD (eCall c__law_news (gV (eMv 0) gNil0)) (eMv 1))))))) sNx)
noncomputable def B__law_begins_0 (c__law_news c__law_form c__law_stage : Fn) : SV := (sAs (gN 2) (eLS (eMv 1)))
noncomputable def B__law_begins_1 (c__law_news c__law_form c__law_stage : Fn) : SV := (sIf (etB (eOp gEq (eMv 2) (eC (.int 0)))) (sSeq (sRet (eC (.bl true))) sNx) sNx)
noncomputable def B__law_begins_2 (c__law_news c__law_form c__law_stage : Fn) : SV := (sAs (gN 3) (eCall c__law_news (gV (eMv 0) gNil0)))
noncomputable def B__law_begins_3 (c__law_news c__law_form c__law_stage : Fn) : SV := (sIf (etB (eOp gNe (eFz (oSS (eMv 1))) (eFz (o1 gSort (sqV (eSl (eMv 3) pNo (pOf (eMv 2)))))))) (sSeq (sRet (eC (.bl false))) sNx) sNx)
noncomputable def B__law_begins_4 (c__law_news c__law_form c__law_stage : Fn) : SV := (sAs (gN 4) (eCall c__law_form (gV (eMv 1) gNil0)))
noncomputable def B__law_begins_5 (c__law_news c__law_form c__law_stage : Fn) : SV := (sRet (eAnd (eOp gEq (eIxN 4 (eC (.int 1))) (eIxN 3 (eOp gSub (eMv 2) (eC (.int 1))))) (eOp gEq (eIxN 4 (eC (.int 0))) (eCall c__law_form (gV (eCall c__law_stage (gV (eMv 0) (gV (eOp gSub (eMv 2) (eC (.int 1))) gNil0))) gNil0)))))
noncomputable def B__law_begins (c__law_news c__law_form c__law_stage : Fn) : SV := (sSeq (B__law_begins_0 c__law_news c__law_form c__law_stage) (sSeq (B__law_begins_1 c__law_news c__law_form c__law_stage) (sSeq (B__law_begins_2 c__law_news c__law_form c__law_stage) (sSeq (B__law_begins_3 c__law_news c__law_form c__law_stage) (sSeq (B__law_begins_4 c__law_news c__law_form c__law_stage) (sSeq (B__law_begins_5 c__law_news c__law_form c__law_stage) sNx))))))
noncomputable def B__law_take_0 : SV := (sIf (etB (eOp gGt (eIxN 0 (eC (.int 0))) (eC (.int 0)))) (sSeq (sAs (gN 2) (eOp gMod (e1 gInt (sqV (eIxN 0 (eC (.int 0))))) (eMv 1))) (sSeq (sPut 0 (eC (.int 0)) (eOp gDiv (eIxN 0 (eC (.int 0))) (eMv 1))) (sSeq (sRet (eMv 2)) sNx))) sNx)
noncomputable def B__law_take_1 : SV := (sPut 0 (eC (.int 2)) (eOp gAdd (eIxN 0 (eC (.int 2))) (eC (.int 1))))
noncomputable def B__law_take_2 : SV := (sAs (gN 3) (eOp gMod (e1 gInt (sqV (eOp gMul (eOp gAdd (eIxN 0 (eC (.int 1))) (eOp gMul (eC (.int 48271)) (eIxN 0 (eC (.int 2))))) (eOp gAdd (eC (.int 39373)) (eIxN 0 (eC (.int 2))))))) (eC (.int 2147483647))))
noncomputable def B__law_take_3 : SV := (sAs (gN 4) (eOp gAdd (eOp gMod (e1 gInt (sqL 3)) (eC (.int 40009))) (eC (.int 7))))
noncomputable def B__law_take_4 : SV := (sAs (gN 5) (eOp gMod (e1 gInt (sqV (eOp gMul (eOp gAdd (eOp gAdd (eMv 3) (eIxN 0 (eC (.int 2)))) (eOp gDiv (eIxN 0 (eC (.int 1))) (eC (.int 1000003)))) (eMv 4)))) (eC (.int 2147483629))))
noncomputable def B__law_take_5 : SV := (sRet (eOp gMod (e1 gInt (sqV (eOp gDiv (eOp gMod (e1 gInt (sqV (eOp gAdd (eOp gMul (eMv 5) (eC (.int 48271))) (eMv 3)))) (eC (.int 2147483587))) (eC (.int 64))))) (eMv 1)))
noncomputable def B__law_take : SV := (sSeq (B__law_take_0) (sSeq (B__law_take_1) (sSeq (B__law_take_2) (sSeq (B__law_take_3) (sSeq (B__law_take_4) (sSeq (B__law_take_5) sNx))))))
noncomputable def B__law_of (c__law_take : Fn) : SV := (sSeq (sRet (eIxN 1 (eCall c__law_take (gS 0 (gV (e1 gLen (sqL 1)) gNil0))))) sNx)
noncomputable def B__law_plan (c__law_take c__law_of : Fn) : SV := (sSeq (sRet (eIf (etB (eOp gNe (eMv 1) (eC (.str [])))) (eM1 gJoin (eC (.str [])) (sqO (oLc (itR1 (eCall c__law_take (gS 0 (gV (eOp gAdd (eMv 2) (eC (.int 1))) gNil0)))) (gN 3) etT (eCall c__law_of (gS 0 (gV (eFz (o1 gList (sqL 1))) gNil0))) [3]))) (eC (.str [])))) sNx)
noncomputable def B__law_book (c__law_take c__law_plan : Fn) : SV := (sSeq (sOw 2 (oLst aNil)) (sSeq (sFor (itR1 (eOp gAdd (eC (.int 2)) (eCall c__law_take (gS 0 (gV (eC (.int 4)) gNil0))))) (gN 3) (sSeq (sOw 4 (oLc (itR1 (eOp gAdd (eC (.int 1)) (eCall c__law_take (gS 0 (gV (eC (.int 4)) gNil0))))) (gN 5) etT (eIf (tAn (etB (eOp gGt (eMv 3) (eC (.int 0)))) (etB (eOp gEq (eCall c__law_take (gS 0 (gV (eC (.int 2)) gNil0))) (eC (.int 0))))) (eCall c__law_take (gS 0 (gV (eMv 3) gNil0))) (eCall c__law_plan (gS 0 (gV (eMv 1) (gV (eC (.int 6)) gNil0))))) [5])) (sSeq (sEx (eApp 2 (e1 gTup (sqL 4)))) sNx))) (sSeq (sRet (e1 gTup (sqL 2))) sNx)))
noncomputable def B__law_by_size : SV := (sSeq (sRet (e1 gTup (sqO (oLc (itV (eFz (o1 gSort (sqO (oLc (itV (eMv 0)) (gN 3) etT (eTup (aCons (e1 gLen (sqV (eIxN 3 (eC (.int 0))))) (aCons (eMv 3) aNil))) [3]))))) (gU 2 (gCn (gN 1) (gCn (gN 2) gNl))) etT (eMv 2) [1, 2])))) sNx)
noncomputable def B__law_cells : SV := (sSeq (sOw 2 (oOr (o1 gList (sqV (eSl (eMv 0) pNo (pOf (eMv 1))))) (oLst (aCons (eC (.int 0)) aNil)))) (sSeq (sFor (itEn (eSl (eMv 0) (pOf (eMv 1)) (pOf (eC (.int 63))))) (gU 2 (gCn (gN 3) (gCn (gN 4) gNl))) (sSeq (sAs (gN 5) (eOp gMod (e1 gInt (sqL 3)) (eMv 1))) (sSeq (sPut 2 (eMv 5) (eOp gAdd (eIxN 2 (eMv 5)) (eOp gMul (eMv 4) (eOp gAdd (eMv 3) (eC (.int 2)))))) sNx))) (sSeq (sRetL 2) sNx)))
noncomputable def B__law_cuts : SV := (sSeq (sOw 1 (oLst aNil)) (sSeq (sFor (itR1 (e1 gLen (sqL 0))) (gN 2) (sSeq (sFor (itR2 (eOp gAdd (eMv 2) (eC (.int 1))) (e1 gLen (sqL 0))) (gN 3) (sSeq (sFor (itR2 (eMv 3) (eOp gAdd (eOp gSub (e1 gLen (sqL 0)) (eOp gSub (eMv 3) (eMv 2))) (eC (.int 1)))) (gN 4) (sSeq (sIf (tAn (etB (eOp gEq (eSl (eMv 0) (pOf (eMv 4)) (pOf (eOp gSub (eOp gAdd (eMv 4) (eMv 3)) (eMv 2)))) (eSl (eMv 0) (pOf (eMv 2)) (pOf (eMv 3))))) (etB (eOp gEq (eFz (oLc (itV (eSl (eMv 0) (pOf (eMv 3)) (pOf (eMv 4)))) (gN 5) (etB (eOpS (gIn true) (eMv 5) (sqV (eSl (eMv 0) (pOf (eMv 2)) (pOf (eMv 3)))))) (eMv 5) [5])) (eFz (oLst aNil))))) (sSeq (sEx (eApp 1 (eTup (aCons (eMv 2) (aCons (eMv 4) aNil))))) sNx) sNx) sNx)) sNx)) sNx)) (sSeq (sRetL 1) sNx)))
noncomputable def B__law_deed (c__law_of c__law_plan : Fn) : SV := (sSeq (sAs (gN 2) (eCall c__law_of (gS 0 (gV (eFz (oLst (aCons (eC (.str [97, 102, 116, 101, 114])) (aCons (eC (.str [97, 102, 116, 101, 114])) (aCons (eC (.str [98, 101, 102, 111, 114, 101])) (aCons (eC (.str [98, 101, 102, 111, 114, 101])) (aCons (eC (.str [115, 116, 114, 105, 107, 101])) (aCons (eC (.str [98, 97, 99, 107])) (aCons (eC (.str [115, 101, 116, 116, 108, 101])) aNil))))))))) gNil0)))) (sSeq (sIf (etB (eOp gEq (eMv 2) (eC (.str [115, 116, 114, 105, 107, 101])))) (sSeq (sRet (eTup (aCons (eMv 2) (aCons (eCall c__law_of (gS 0 (gV (eFz (o1 gList (sqL 1))) gNil0))) aNil)))) sNx) sNx) (sSeq (sRet (eIf (etB (eOpS (gIn false) (eMv 2) (sqV (eTup (aCons (eC (.str [97, 102, 116, 101, 114])) (aCons (eC (.str [98, 101, 102, 111, 114, 101])) aNil)))))) (eTup (aCons (eMv 2) (aCons (eCall c__law_plan (gS 0 (gV (eMv 1) (gV (eC (.int 5)) gNil0)))) aNil))) (eTup (aCons (eMv 2) aNil)))) sNx)))
noncomputable def B__law_pick (c__law_take : Fn) : SV := (sSeq (sPar [3, 4] (gO (o1 gList (sqL 1)) (gO (oLst aNil) gNil0))) (sSeq (sFor (itR1 (eOp gMin2 (e1 gInt (sqL 2)) (e1 gLen (sqL 3)))) (gN 5) (sSeq (sEx (eApp 4 (ePopA 3 (eCall c__law_take (gS 0 (gV (e1 gLen (sqL 3)) gNil0)))))) sNx)) (sSeq (sRetL 4) sNx)))
noncomputable def B__law_full (c__law_pick c__law_plan : Fn) : SV := (sSeq (sAs (gN 3) (eFz (oCall c__law_pick (gS 0 (gV (eFz (o1 gList (sqL 1))) (gV (eC (.int 9)) gNil0)))))) (sSeq (sAs (gN 4) (eFz (o1 gList (sqV (eCall c__law_plan (gS 0 (gV (eMv 1) (gV (eMv 2) gNil0)))))))) (sSeq (sRet (eM1 gJoin (eC (.str [])) (sqO (oCall c__law_pick (gS 0 (gV (eOp gAdd (eMv 3) (eMv 4)) (gV (eC (.int 99)) gNil0))))))) sNx)))
noncomputable def B__law_golden : SV := (sSeq (sFor (itR1 (eC (.int 200))) (gN 3) (sSeq (sIf (etB (eOp gLt (eMv 1) (eC (.int 2)))) (sSeq sBk sNx) sNx) (sSeq (sIf (etB (eOp gLt (eMv 2) (eIxN 0 (eOp gSub (eMv 1) (eC (.int 1)))))) (sSeq (sAs (gN 1) (eOp gSub (eMv 1) (eC (.int 1)))) sNx) (sSeq (sPar [1, 2] (gV (eOp gSub (eMv 1) (eC (.int 2))) (gV (eOp gSub (eMv 2) (eIxN 0 (eOp gSub (eMv 1) (eC (.int 1))))) gNil0))) sNx)) sNx))) (sSeq (sRet (eMv 1)) sNx))
noncomputable def B__law_or : SV := (sSeq (sAs (gU 2 (gCn (gN 2) (gCn (gN 3) gNl))) (eTup (aCons (eC (.int 0)) (aCons (eC (.int 1)) aNil)))) (sSeq (sFor (itR1 (eC (.int 4))) (gN 4) (sSeq (sAs (gN 2) (eOp gAdd (eMv 2) (eOp gMul (eMv 3) (e1 gMax (sqO (oLst (aCons (eOp gMod (eOp gDiv (eMv 0) (eMv 3)) (eC (.int 2))) (aCons (eOp gMod (eOp gDiv (eMv 1) (eMv 3)) (eC (.int 2))) aNil)))))))) (sSeq (sAs (gN 3) (eOp gMul (eC (.int 2)) (eMv 3))) sNx))) (sSeq (sRet (eMv 2)) sNx)))
noncomputable def B__law_grow (c__law_take c__law_or : Fn) : SV := (sSeq (sOw 2 (oLc (itV (eMv 1)) (gN 4) etT (eOp gAdd (eC (.int 1)) (eCall c__law_take (gS 0 (gV (eC (.int 15)) gNil0)))) [4])) (sSeq (sOw 3 (oLc (itV (eMv 2)) (gN 5) etT (e1 gTup (sqO (oLc (itR1 (eC (.int 16))) (gN 6) etT (eCall c__law_or (gV (eMv 6) (gV (eMv 5) gNil0))) [6]))) [5])) (sSeq (sRet (eTup (aCons (eTup (aCons (eC (.int 16)) (aCons (e1 gTup (sqO (oLc (itZ (eMv 1) (eMv 3)) (gU 2 (gCn (gN 4) (gCn (gN 7) gNl))) etT (eTup (aCons (eMv 4) (aCons (eMv 7) aNil))) [4, 7]))) aNil))) (aCons (eMv 2) aNil)))) sNx)))
noncomputable def B__law_halves_0 (c__law_half : Fn) : SV := (sIf (etB (eOp gEq (eMv 0) (eC (.int 0)))) (sSeq (sRet (eCall c__law_half (gV (eMv 1) gNil0))) sNx) sNx)
noncomputable def B__law_halves_1 (c__law_half : Fn) : SV := (sAs (gN 2) (eC (.int 1)))
noncomputable def B__law_halves_2 (c__law_half : Fn) : SV := (sFor (itR2 (eOp gAdd (eMv 0) (eC (.int 1))) (eOp gAdd (eMv 1) (eC (.int 1)))) (gN 3) (sSeq (sAs (gN 2) (eOp gMul (eOp gMul (eMv 2) (eOp gSub (eMv 3) (eMv 0))) (eCall c__law_half (gV (eOp gSub (eMv 3) (eC (.int 1))) gNil0)))) sNx))
noncomputable def B__law_halves_3 (c__law_half : Fn) : SV := (sRet (eMv 2))
noncomputable def B__law_halves (c__law_half : Fn) : SV := (sSeq (B__law_halves_0 c__law_half) (sSeq (B__law_halves_1 c__law_half) (sSeq (B__law_halves_2 c__law_half) (sSeq (B__law_halves_3 c__law_half) sNx))))
noncomputable def B__law_in (c__law_in : Fn) : SV := (sSeq (sRet (eIf (etB (eOp gNe (eMv 0) (eTup aNil))) (eM1 gJoin (eC (.str [])) (sqO (o1 gSort (sqV (eOp gAdd (eCall c__law_in (gV (eIxN 0 (eC (.int 0))) gNil0)) (eIxN 0 (eC (.int 1)))))))) (eC (.str [])))) sNx)
noncomputable def B__law_shorter : SV := (sSeq (sFor (itR1 (e1 gLen (sqL 0))) (gN 2) (sSeq (sFor (itR2 (eOp gAdd (eMv 2) (eC (.int 1))) (e1 gLen (sqL 0))) (gN 3) (sSeq (sFor (itR2 (eMv 3) (e1 gLen (sqL 0))) (gN 4) (sSeq (sAs (gU 2 (gCn (gN 5) (gCn (gN 6) gNl))) (eTup (aCons (eSl (eMv 0) (pOf (eMv 2)) (pOf (eMv 3))) (aCons (eSl (eMv 0) (pOf (eMv 3)) (pOf (eMv 4))) aNil)))) (sSeq (sIf (tAn (etB (eOp gEq (eSl (eMv 0) (pOf (eMv 4)) (pOf (eOp gSub (eOp gAdd (eMv 4) (eMv 3)) (eMv 2)))) (eMv 5))) (tAn (etB (eOp gEq (eFz (oLc (itV (eMv 6)) (gN 7) (etB (eOpS (gIn true) (eMv 7) (sqL 5))) (eMv 7) [7])) (eFz (oLst aNil)))) (etB (eOp gEq (eOp gAdd (eSl (eMv 0) pNo (pOf (eMv 2))) (eSl (eMv 0) (pOf (eMv 4)) pNo)) (eMv 1))))) (sSeq (sRet (eC (.bl true))) sNx) sNx) sNx))) sNx)) sNx)) (sSeq (sRet (eC (.bl false))) sNx))
noncomputable def B__law_is_chain (c__law_shorter : Fn) : SV := (sSeq (sIf (tOr' (tNo (etB (eIsi ["tuple"] (eMv 2)))) (tOr' (etB (eOp gEq (eMv 2) (eTup aNil))) (tOr' (etB (eOp gNe (eIxN 2 (eC (.int 0))) (eMv 0))) (etB (eOp gNe (eIxN 2 (eNeg (eC (.int 1)))) (eMv 1)))))) (sSeq (sRet (eC (.bl false))) sNx) sNx) (sSeq (sRet (eOp gEq (eFz (oLc (itZ (eMv 2) (eSl (eMv 2) (pOf (eC (.int 1))) pNo)) (gU 2 (gCn (gN 3) (gCn (gN 4) gNl))) (tAn (tNo (etB (eCall c__law_shorter (gV (eMv 3) (gV (eMv 4) gNil0))))) (tNo (etB (eCall c__law_shorter (gV (eMv 4) (gV (eMv 3) gNil0)))))) (eC (.int 1)) [3, 4])) (eFz (oLst aNil)))) sNx))
noncomputable def B__law_left : SV := (sSeq (sRet (eM1 gJoin (eC (.str [])) (sqO (oLc (itV (eMv 0)) (gN 2) (etB (eOpS (gIn true) (eMv 2) (sqL 1))) (eMv 2) [2])))) sNx)
noncomputable def B__law_letters (c__law_pick : Fn) : SV := (sSeq (sRet (eM1 gJoin (eC (.str [])) (sqO (o1 gSort (sqO (oCall c__law_pick (gS 0 (gV (eFz (o1 gList (sqV (eC (.str [97, 98, 99, 100, 101, 102, 103, 104]))))) (gV (eMv 1) gNil0))))))))) sNx)
noncomputable def B__law_lists (c__law_lists : Fn) : SV := (sSeq (sRet (eIf (etB (eIsi ["list", "tuple"] (eMv 0))) (eFz (oLc (itV (eMv 0)) (gN 1) etT (eCall c__law_lists (gV (eMv 1) gNil0)) [1])) (eMv 0))) sNx)
noncomputable def B__law_long (c__law_long : Fn) : SV := (sSeq (sRet (eIf (etB (eOp gGt (eMv 0) (eC (.int 0)))) (eOp gAdd (eC (.int 4)) (eOp gMul (eC (.int 2)) (eCall c__law_long (gV (eOp gSub (eMv 0) (eC (.int 1))) gNil0)))) (eC (.int 1)))) sNx)
noncomputable def B__law_mate_0 (c__law_take c__law_plan : Fn) : SV := (sOw 2 (oLc (itR1 (eC (.int 2))) (gN 5) etT (eCall c__law_take (gS 0 (gV (eOp gAdd (e1 gLen (sqL 1)) (eC (.int 1))) gNil0))) [5]))
noncomputable def B__law_mate_1 (c__law_take c__law_plan : Fn) : SV := (sAs (gN 3) (eSl (eMv 1) (pOf (e1 gMin (sqL 2))) (pOf (e1 gMax (sqL 2)))))
noncomputable def B__law_mate_2 (c__law_take c__law_plan : Fn) : SV := (sIf (etB (eOp gEq (eMv 3) (eC (.str [])))) (sSeq (sRet (eMv 1)) sNx) sNx)
noncomputable def B__law_mate_3 (c__law_take c__law_plan : Fn) : SV := (sAs (gN 4) (eCall c__law_plan (gS 0 (gV (eM1 gJoin (eC (.str [])) (sqO (oSS (eMv 3)))) (gV (eC (.int 3)) gNil0)))))
noncomputable def B__law_mate_4 (c__law_take c__law_plan : Fn) : SV := (sRet (eOp gAdd (eOp gAdd (eOp gAdd (eOp gAdd (eSl (eMv 1) pNo (pOf (e1 gMin (sqL 2)))) (eMv 3)) (eMv 4)) (eMv 3)) (eSl (eMv 1) (pOf (e1 gMax (sqL 2))) pNo)))
noncomputable def B__law_mate (c__law_take c__law_plan : Fn) : SV := (sSeq (B__law_mate_0 c__law_take c__law_plan) (sSeq (B__law_mate_1 c__law_take c__law_plan) (sSeq (B__law_mate_2 c__law_take c__law_plan) (sSeq (B__law_mate_3 c__law_take c__law_plan) (sSeq (B__law_mate_4 c__law_take c__law_plan) sNx)))))
noncomputable def B__law_named (c__law_named : Fn) : SV := (sSeq (sIf (etB (eOp gEq (eMv 0) (eTup aNil))) (sSeq (sRet (eTup aNil)) sNx) sNx) (sSeq (sRet (eTup (aCons (eCall c__law_named (gV (eIxN 0 (eC (.int 0))) (gV (eMv 1) (gV (eMv 2) gNil0)))) (aCons (eIxN 2 (eM1 gIndex (eMv 1) (sqV (eIxN 0 (eC (.int 1)))))) (aCons (eIxN 2 (eM1 gIndex (eMv 1) (sqV (eIxN 0 (eC (.int 2)))))) (aCons (eCall c__law_named (gV (eIxN 0 (eC (.int 3))) (gV (eMv 1) (gV (eMv 2) gNil0)))) aNil)))))) sNx))
noncomputable def B__law_number_0 (c__law_in c__law_all c__law_number : Fn) : SV := (sIf (etB (eOp gEq (eMv 0) (eTup aNil))) (sSeq (sRet (eC (.int 0))) sNx) sNx)
noncomputable def B__law_number_1 (c__law_in c__law_all c__law_number : Fn) : SV := (sPar [1, 2] (gV (eCall c__law_in (gV (eMv 0) gNil0)) (gV (e1 gLen (sqV (eCall c__law_in (gV (eMv 0) gNil0)))) gNil0)))
noncomputable def B__law_number_2 (c__law_in c__law_all c__law_number : Fn) : SV := (sAs (gN 3) (eCall c__law_all (gV (eOp gSub (eMv 2) (eC (.int 1))) gNil0)))
noncomputable def B__law_number_3 (c__law_in c__law_all c__law_number : Fn) : SV := (sAs (gN 4) (eOp gAdd (eOp gMul (eM1 gIndex (eMv 1) (sqV (eIxN 0 (eC (.int 1))))) (eMv 3)) (eCall c__law_number (gV (eIxN 0 (eC (.int 0))) gNil0))))
noncomputable def B__law_number_4 (c__law_in c__law_all c__law_number : Fn) : SV := (sRet (eOp gAdd (eOp gMul (eOp gAdd (eOp gMul (eMv 4) (eMv 2)) (eM1 gIndex (eMv 1) (sqV (eIxN 0 (eC (.int 2)))))) (eMv 3)) (eCall c__law_number (gV (eIxN 0 (eC (.int 3))) gNil0))))
noncomputable def B__law_number (c__law_in c__law_all c__law_number : Fn) : SV := (sSeq (B__law_number_0 c__law_in c__law_all c__law_number) (sSeq (B__law_number_1 c__law_in c__law_all c__law_number) (sSeq (B__law_number_2 c__law_in c__law_all c__law_number) (sSeq (B__law_number_3 c__law_in c__law_all c__law_number) (sSeq (B__law_number_4 c__law_in c__law_all c__law_number) sNx)))))
noncomputable def B__law_ones : SV := (sSeq (sPar [1, 2] (gV (eC (.int 0)) (gV (eMv 0) gNil0))) (sSeq (sFor (itR1 (eC (.int 130))) (gN 3) (sSeq (sIf (etB (eOp gEq (eMv 2) (eC (.int 0)))) (sSeq sBk sNx) sNx) (sSeq (sPar [1, 2] (gV (eOp gAdd (eMv 1) (eOp gMod (eMv 2) (eC (.int 2)))) (gV (eOp gDiv (eMv 2) (eC (.int 2))) gNil0))) sNx))) (sSeq (sRet (eOp gMod (eMv 1) (eC (.int 2)))) sNx)))
noncomputable def B__law_part : SV := (sSeq (sFor (itV (eMv 1)) (gN 2) (sSeq (sAs (gN 0) (eIf (etB (eOp gEq (eMv 0) (eTup aNil))) (eTup aNil) (eIf (etB (eOp gEq (eMv 2) (eC (.str [60])))) (eIxN 0 (eC (.int 0))) (eIxN 0 (eC (.int 3)))))) sNx)) (sSeq (sRet (eMv 0)) sNx))
noncomputable def B__law_power : SV := (sSeq (sAs (gN 2) (eC (.int 1))) (sSeq (sFor (itR1 (eMv 1)) (gN 3) (sSeq (sAs (gN 2) (eOp gMul (eMv 2) (eMv 0))) sNx)) (sSeq (sRet (eMv 2)) sNx)))
noncomputable def B__law_put : SV := (sSeq (sRet (eOp gAdd (eOp gAdd (eSl (eMv 0) pNo (pOf (eMv 1))) (eTup (aCons (eMv 2) aNil))) (eSl (eMv 0) (pOf (eOp gAdd (eMv 1) (eC (.int 1)))) pNo))) sNx)
noncomputable def B__law_question (c__law_take c__law_of : Fn) : SV := (sSeq (sRet (eOp gAdd (eM1 gJoin (eC (.str [])) (sqO (oLc (itR1 (eCall c__law_take (gS 0 (gV (eOp gAdd (eMv 1) (eC (.int 1))) gNil0)))) (gN 2) etT (eCall c__law_of (gS 0 (gV (eFz (oLst (aCons (eC (.str [60])) (aCons (eC (.str [62])) aNil)))) gNil0))) [2]))) (eCall c__law_of (gS 0 (gV (eFz (oLst (aCons (eC (.str [63])) (aCons (eC (.str [97])) (aCons (eC (.str [98])) aNil))))) gNil0))))) sNx)
noncomputable def B__law_reset (c__law_take : Fn) : SV := (sSeq (sOw 2 (oLc (itV (eMv 1)) (gN 3) etT (eCall c__law_take (gS 0 (gV (eC (.int 4)) gNil0))) [3])) (sSeq (sRet (eTup (aCons (eTup (aCons (eC (.int 3)) (aCons (e1 gTup (sqO (oLc (itZ (eMv 1) (eMv 2)) (gU 2 (gCn (gN 3) (gCn (gN 4) gNl))) etT (eTup (aCons (eMv 3) (aCons (e1 gTup (sqO (oLc (itR1 (eC (.int 3))) (gN 5) etT (eIf (etB (eOp gEq (eMv 4) (eC (.int 3)))) (eMv 5) (eMv 4)) [5]))) aNil))) [3, 4]))) aNil))) (aCons (eMv 2) aNil)))) sNx))
noncomputable def B__law_same_0 (c__law_same : Fn) : SV := (sIf (etB (eIsi ["list", "tuple"] (eMv 1))) (sSeq (sIf (tOr' (etB (eOp gNe (eIsi ["list"] (eMv 0)) (eIsi ["list"] (eMv 1)))) (etB (eOp gNe (eIsi ["tuple"] (eMv 0)) (eIsi ["tuple"] (eMv 1))))) (sSeq (sRet (eC (.bl false))) sNx) sNx) (sSeq (sRet (eAnd (eOp gEq (e1 gLen (sqL 0)) (e1 gLen (sqL 1))) (e1 gAll (sqO (oLc (itZ (eMv 0) (eMv 1)) (gU 2 (gCn (gN 2) (gCn (gN 3) gNl))) etT (eCall c__law_same (gV (eMv 2) (gV (eMv 3) gNil0))) [2, 3]))))) sNx)) sNx)
noncomputable def B__law_same_1 (c__law_same : Fn) : SV := (sIf (etB (eOp gIs (eMv 1) (eC .non))) (sSeq (sRet (eOp gIs (eMv 0) (eC .non))) sNx) sNx)
noncomputable def B__law_same_2 (c__law_same : Fn) : SV := (sIf (etB (eIsi ["bool", "str"] (eMv 1))) (sSeq (sRet (eAnd (eOp gEq (eIsi ["bool"] (eMv 0)) (eIsi ["bool"] (eMv 1))) (eAnd (eOp gEq (eIsi ["str"] (eMv 0)) (eIsi ["str"] (eMv 1))) (eOp gEq (eMv 0) (eMv 1))))) sNx) sNx)
noncomputable def B__law_same_3 (c__law_same : Fn) : SV := (sRet (eAnd (eIsi ["int"] (eMv 0)) (eAnd (eNot (eIsi ["bool"] (eMv 0))) (eOp gEq (eMv 0) (eMv 1)))))
noncomputable def B__law_same (c__law_same : Fn) : SV := (sSeq (B__law_same_0 c__law_same) (sSeq (B__law_same_1 c__law_same) (sSeq (B__law_same_2 c__law_same) (sSeq (B__law_same_3 c__law_same) sNx))))
noncomputable def B__law_same_start (c__law_news c__law_stage c__law_form : Fn) : SV := (sSeq (sPar [2, 3, 4] (gV (eCall c__law_news (gV (eMv 0) gNil0)) (gV (eCall c__law_news (gV (eMv 1) gNil0)) (gV (eC (.int 0)) gNil0)))) (sSeq (sFor (itR1 (e1 gMin (sqO (oLst (aCons (e1 gLen (sqL 2)) (aCons (e1 gLen (sqL 3)) aNil)))))) (gN 5) (sSeq (sIf (tAn (etB (eOp gEq (eIxN 2 (eMv 5)) (eIxN 3 (eMv 5)))) (etB (eOp gEq (eCall c__law_form (gV (eCall c__law_stage (gV (eMv 0) (gV (eMv 5) gNil0))) gNil0)) (eCall c__law_form (gV (eCall c__law_stage (gV (eMv 1) (gV (eMv 5) gNil0))) gNil0))))) (sSeq (sAs (gN 4) (eOp gAdd (eMv 5) (eC (.int 1)))) sNx) sNx) sNx)) (sSeq (sRet (eMv 4)) sNx)))
noncomputable def B__law_told (c__law_told : Fn) : SV := (sSeq (sRet (eM1 gJoin (eC (.str [])) (sqO (oLc (itV (eIxN 0 (eMv 1))) (gN 2) etT (eIf (etB (eIsi ["int"] (eMv 2))) (eCall c__law_told (gV (eMv 0) (gV (eMv 2) gNil0))) (eMv 2)) [2])))) sNx)
noncomputable def B__wall : SV := (sSeq (sWh (etB (eC (.bl true))) (sSeq sNx sNx)) sNx)
noncomputable def B_check_some : SV := (sSeq (sIf (etB (eOp gEq (eMv 0) (eC (.str [])))) (sSeq sNo sNx) sNx) sNx)
noncomputable def B_news : SV := (sSeq (sAs (gN 1) (eC (.str []))) (sSeq (sFor (itV (eMv 0)) (gN 2) (sSeq (sIf (etB (eOpS (gIn true) (eMv 2) (sqL 1))) (sSeq (sAug gIadd 1 (eMv 2)) sNx) sNx) sNx)) (sSeq (sRet (eMv 1)) sNx)))
noncomputable def B_gones (c_news : Fn) : SV := (sSeq (sRet (eRev (eCall c_news (gV (eRev (eMv 0)) gNil0)))) sNx)
noncomputable def B_first_gone (c_check_some c_gones : Fn) : SV := (sSeq (sEx (eCall c_check_some (gV (eMv 0) gNil0))) (sSeq (sAs (gN 1) (eOp gIxD (eCall c_gones (gV (eMv 0) gNil0)) (eC (.int 0)))) (sSeq (sRet (eTup (aCons (eMv 1) (aCons (eSl (eMv 0) (pOf (eOp gAdd (eM1 gRfind (eMv 0) (sqL 1)) (eC (.int 1)))) pNo) aNil)))) sNx)))
noncomputable def B_last_new (c_check_some c_news : Fn) : SV := (sSeq (sEx (eCall c_check_some (gV (eMv 0) gNil0))) (sSeq (sAs (gN 1) (eOp gIxD (eCall c_news (gV (eMv 0) gNil0)) (eNeg (eC (.int 1))))) (sSeq (sRet (eTup (aCons (eSl (eMv 0) pNo (pOf (eM1 gFind (eMv 0) (sqL 1)))) (aCons (eMv 1) aNil)))) sNx)))
noncomputable def B_form_by (c_form_by c_first_gone c_last_new : Fn) : SV := (sSeq (sIf (etB (eOp gEq (eMv 0) (eC (.str [])))) (sSeq (sRet (eTup aNil)) sNx) sNx) (sSeq (sIf (etB (eOpS (gIn true) (eMv 0) (sqL 1))) (sSeq (sAs (gU 2 (gCn (gN 2) (gCn (gN 3) gNl))) (eCall c_last_new (gV (eMv 0) gNil0))) (sSeq (sAs (gU 2 (gCn (gN 4) (gCn (gN 5) gNl))) (eCall c_first_gone (gV (eMv 0) gNil0))) (sSeq (sPut 1 (eMv 0) (eTup (aCons (eCall c_form_by (gV (eMv 2) (gS 1 gNil0))) (aCons (eMv 3) (aCons (eMv 4) (aCons (eCall c_form_by (gV (eMv 5) (gS 1 gNil0))) aNil)))))) sNx))) sNx) (sSeq (sRet (eIxN 1 (eMv 0))) sNx)))
noncomputable def B_form_of (c_form_by : Fn) : SV := (sSeq (sRet (eCall c_form_by (gV (eMv 0) (gO oDic gNil0)))) sNx)
noncomputable def B_alike (c_form_of : Fn) : SV := (sSeq (sRet (eOp gEq (eCall c_form_of (gV (eMv 0) gNil0)) (eCall c_form_of (gV (eMv 1) gNil0)))) sNx)
noncomputable def B_check_piece : SV := (sSeq (sIf (tNo (etB (eChn gLe gLt (eC (.int 0)) (eMv 1) (e1 gLen (sqL 0))))) (sSeq sNo sNx) sNx) sNx)
noncomputable def B_plan_by (c_plan_by : Fn) : SV := (sSeq (sIf (etB (eOp gEq (e1 gLen (sqL 0)) (eC (.int 0)))) (sSeq (sRet (eC (.str []))) sNx) sNx) (sSeq (sPar [1, 2] (gV (eCall c_plan_by (gV (eIxN 0 (eC (.int 0))) gNil0)) (gV (eCall c_plan_by (gV (eIxN 0 (eC (.int 3))) gNil0)) gNil0))) (sSeq (sRet (eIf (etB (eOp gNe (eMv 1) (eC (.str [])))) (eOp gAdd (eOp gAdd (eOp gAdd (eMv 1) (eIxN 0 (eC (.int 1)))) (eIxN 0 (eC (.int 2)))) (eMv 2)) (eIxN 0 (eC (.int 1))))) sNx)))
noncomputable def B_plan_of (c_plan_by : Fn) : SV := (sSeq (sRet (eCall c_plan_by (gV (eMv 0) gNil0))) sNx)
noncomputable def B_product (c_plan_of c_form_of : Fn) : SV := (sSeq (sRet (eCall c_form_of (gV (eOp gAdd (eCall c_plan_of (gV (eMv 0) gNil0)) (eCall c_plan_of (gV (eMv 1) gNil0))) gNil0))) sNx)
noncomputable def B_forms_of (c_form_of c_product : Fn) : SV := (sSeq (sOw 1 (oLst aNil)) (sSeq (sFor (itV (eMv 0)) (gN 2) (sSeq (sAs (gN 3) (eTup aNil)) (sSeq (sFor (itV (eMv 2)) (gN 4) (sSeq (sAs (gN 3) (eCall c_product (gV (eMv 3) (gV (eIf (etB (eIsi ["str"] (eMv 4))) (eCall c_form_of (gV (eMv 4) gNil0)) (eIxN 1 (eMv 4))) gNil0)))) sNx)) (sSeq (sEx (eApp 1 (eMv 3))) sNx)))) (sSeq (sRetL 1) sNx)))
noncomputable def B_form_in (c_check_piece c_forms_of : Fn) : SV := (sSeq (sEx (eCall c_check_piece (gV (eMv 0) (gV (eMv 1) gNil0)))) (sSeq (sRet (eOp gIxD (eFz (oCall c_forms_of (gV (eSl (eMv 0) pNo (pOf (eOp gAdd (eMv 1) (eC (.int 1))))) gNil0))) (eMv 1))) sNx))
noncomputable def B_alike_pieces (c_form_in : Fn) : SV := (sSeq (sRet (eOp gEq (eCall c_form_in (gV (eMv 0) (gV (eMv 1) gNil0))) (eCall c_form_in (gV (eMv 0) (gV (eMv 2) gNil0))))) sNx)
noncomputable def B_how_many_forms : SV := (sSeq (sAs (gN 1) (eC (.int 1))) (sSeq (sFor (itR2 (eC (.int 1)) (eOp gAdd (eMv 0) (eC (.int 1)))) (gN 2) (sSeq (sAs (gN 1) (eOp gMul (eOp gMul (eOp gMul (eMv 2) (eMv 1)) (eMv 2)) (eMv 1))) sNx)) (sSeq (sRet (eMv 1)) sNx)))
noncomputable def B_less : SV := (sSeq (sRet (eOp gAdd (eSl (eMv 0) pNo (pOf (eMv 1))) (eSl (eMv 0) (pOf (eOp gAdd (eMv 1) (eC (.int 1)))) pNo))) sNx)
noncomputable def B_nth_form_0 (c_how_many_forms c_less c_nth_form : Fn) : SV := (sIf (tNo (etB (eChn gLe gLt (eC (.int 0)) (eMv 1) (eCall c_how_many_forms (gV (e1 gLen (sqL 0)) gNil0))))) (sSeq (sRet (eC .non)) sNx) sNx)
noncomputable def B_nth_form_1 (c_how_many_forms c_less c_nth_form : Fn) : SV := (sIf (etB (eOp gEq (eMv 0) (eC (.str [])))) (sSeq (sRet (eTup aNil)) sNx) sNx)
noncomputable def B_nth_form_2 (c_how_many_forms c_less c_nth_form : Fn) : SV := (sAs (gN 2) (eCall c_how_many_forms (gV (eOp gSub (e1 gLen (sqL 0)) (eC (.int 1))) gNil0)))
noncomputable def B_nth_form_3 (c_how_many_forms c_less c_nth_form : Fn) : SV := (sPar [3, 4] (gV (eOp gDiv (eMv 1) (eMv 2)) (gV (eOp gMod (eMv 1) (eMv 2)) gNil0)))
noncomputable def B_nth_form_4 (c_how_many_forms c_less c_nth_form : Fn) : SV := (sPar [3, 5] (gV (eOp gDiv (eMv 3) (e1 gLen (sqL 0))) (gV (eOp gMod (eMv 3) (e1 gLen (sqL 0))) gNil0)))
noncomputable def B_nth_form_5 (c_how_many_forms c_less c_nth_form : Fn) : SV := (sPar [6, 7] (gV (eOp gDiv (eMv 3) (eMv 2)) (gV (eOp gMod (eMv 3) (eMv 2)) gNil0)))
noncomputable def B_nth_form_6 (c_how_many_forms c_less c_nth_form : Fn) : SV := (sRet (eTup (aCons (eCall c_nth_form (gV (eCall c_less (gV (eMv 0) (gV (eMv 6) gNil0))) (gV (eMv 7) gNil0))) (aCons (eIxN 0 (eMv 6)) (aCons (eIxN 0 (eMv 5)) (aCons (eCall c_nth_form (gV (eCall c_less (gV (eMv 0) (gV (eMv 5) gNil0))) (gV (eMv 4) gNil0))) aNil))))))
noncomputable def B_nth_form (c_how_many_forms c_less c_nth_form : Fn) : SV := (sSeq (B_nth_form_0 c_how_many_forms c_less c_nth_form) (sSeq (B_nth_form_1 c_how_many_forms c_less c_nth_form) (sSeq (B_nth_form_2 c_how_many_forms c_less c_nth_form) (sSeq (B_nth_form_3 c_how_many_forms c_less c_nth_form) (sSeq (B_nth_form_4 c_how_many_forms c_less c_nth_form) (sSeq (B_nth_form_5 c_how_many_forms c_less c_nth_form) (sSeq (B_nth_form_6 c_how_many_forms c_less c_nth_form) sNx)))))))
noncomputable def B_all_forms (c_how_many_forms c_nth_form : Fn) : SV := (sSeq (sRetO (oLc (itR1 (eCall c_how_many_forms (gV (e1 gLen (sqL 0)) gNil0))) (gN 1) etT (eCall c_nth_form (gV (eMv 0) (gV (eMv 1) gNil0))) [1])) sNx)
noncomputable def B_all_sets : SV := (sSeq (sAs (gN 1) (eFz (oLst (aCons (eC (.str [])) aNil)))) (sSeq (sFor (itV (eMv 0)) (gN 2) (sSeq (sAs (gN 1) (eOp gAdd (eMv 1) (eFz (oLc (itV (eMv 1)) (gN 3) etT (eOp gAdd (eMv 3) (eMv 2)) [3])))) sNx)) (sSeq (sRet (eMv 1)) sNx)))
noncomputable def B_part_of (c_last_new c_first_gone : Fn) : SV := (sSeq (sFor (itV (eMv 1)) (gN 2) (sSeq (sIf (etB (eOp gNe (eMv 0) (eC (.str [])))) (sSeq (sAs (gN 0) (eIf (etB (eOp gEq (eMv 2) (eC (.str [60])))) (eOp gIxD (eCall c_last_new (gV (eMv 0) gNil0)) (eC (.int 0))) (eOp gIxD (eCall c_first_gone (gV (eMv 0) gNil0)) (eC (.int 1))))) sNx) sNx) sNx)) (sSeq (sRet (eMv 0)) sNx))
noncomputable def B_letters_of : SV := (sSeq (sRet (eM1 gJoin (eC (.str [])) (sqO (oSS (eMv 0))))) sNx)
noncomputable def B_answer (c_part_of c_letters_of c_last_new c_first_gone : Fn) : SV := (sSeq (sAs (gN 2) (eCall c_part_of (gV (eMv 0) (gV (eSl (eMv 1) pNo (pOf (eNeg (eC (.int 1))))) gNil0)))) (sSeq (sIf (tOr' (etB (eOp gEq (eMv 2) (eC (.str [])))) (etB (eOp gEq (eIxN 1 (eNeg (eC (.int 1)))) (eC (.str [63]))))) (sSeq (sRet (eCall c_letters_of (gV (eMv 2) gNil0))) sNx) sNx) (sSeq (sRet (eIf (etB (eOp gEq (eIxN 1 (eNeg (eC (.int 1)))) (eC (.str [97])))) (eOp gIxD (eCall c_last_new (gV (eMv 2) gNil0)) (eC (.int 1))) (eOp gIxD (eCall c_first_gone (gV (eMv 2) gNil0)) (eC (.int 0))))) sNx)))
noncomputable def B_is_number : SV := (sSeq (sRet (eAnd (eIsi ["int"] (eMv 0)) (eNot (eIsi ["bool"] (eMv 0))))) sNx)
noncomputable def B_are_numbers (c_is_number : Fn) : SV := (sSeq (sRet (eAnd (eIsi ["tuple"] (eMv 0)) (eAnd (eOp gEq (e1 gLen (sqL 0)) (eMv 1)) (e1 gAll (sqO (oLc (itV (eMv 0)) (gN 3) etT (eAnd (eCall c_is_number (gV (eMv 3) gNil0)) (eOp gGe (eMv 3) (eMv 2))) [3])))))) sNx)
noncomputable def B_backward : SV := (sSeq (sRet (eRev (eMv 0))) sNx)
noncomputable def B_begins (c_form_of : Fn) : SV := (sSeq (sRet (eOp gEq (eCall c_form_of (gV (eOp gAdd (eMv 1) (eMv 0)) gNil0)) (eCall c_form_of (gV (eMv 0) gNil0)))) sNx)
noncomputable def B_chain_down_0 (c_first_gone c_last_new c_chain_down : Fn) : SV := (sIf (etB (eOp gEq (eMv 0) (eC (.str [])))) (sSeq (sRet (eFz (oLst (aCons (eMv 0) aNil)))) sNx) sNx)
noncomputable def B_chain_down_1 (c_first_gone c_last_new c_chain_down : Fn) : SV := (sAs (gU 2 (gCn (gU 2 (gCn (gN 1) (gCn (gN 2) gNl))) (gCn (gU 2 (gCn (gN 3) (gCn (gN 4) gNl))) gNl))) (eTup (aCons (eCall c_last_new (gV (eMv 0) gNil0)) (aCons (eCall c_first_gone (gV (eMv 0) gNil0)) aNil))))
noncomputable def B_chain_down_2 (c_first_gone c_last_new c_chain_down : Fn) : SV := (sIf (etB (eOp gEq (eMv 1) (eC (.str [])))) (sSeq (sRet (eIf (etB (eOp gNe (eMv 0) (eMv 2))) (eFz (oLst (aCons (eMv 0) (aCons (eMv 2) aNil)))) (eFz (oLst (aCons (eMv 0) aNil))))) sNx) sNx)
noncomputable def B_chain_down_3 (c_first_gone c_last_new c_chain_down : Fn) : SV := (sAs (gU 2 (gCn (gN 5) (gCn (gN 6) gNl))) (eTup (aCons (eOp gAdd (eMv 1) (eMv 2)) (aCons (eOp gAdd (eMv 3) (eMv 4)) aNil))))
noncomputable def B_chain_down_4 (c_first_gone c_last_new c_chain_down : Fn) : SV := (sAs (gN 7) (eOp gAdd (eSl (eMv 0) (pOf (e1 gLen (sqL 5))) pNo) (eSl (eMv 0) pNo (pOf (eOp gSub (e1 gLen (sqL 0)) (e1 gLen (sqL 6)))))))
noncomputable def B_chain_down_5 (c_first_gone c_last_new c_chain_down : Fn) : SV := (sAs (gN 8) (eFz (oLst (aCons (eMv 0) (aCons (eOp gAdd (eMv 0) (eMv 0)) (aCons (eOp gAdd (eOp gAdd (eOp gAdd (eOp gAdd (eOp gAdd (eMv 5) (eMv 6)) (eMv 5)) (eSl (eMv 0) (pOf (e1 gLen (sqL 5))) pNo)) (eSl (eMv 0) pNo (pOf (eOp gSub (e1 gLen (sqL 0)) (e1 gLen (sqL 6)))))) (eMv 6)) aNil))))))
noncomputable def B_chain_down_6 (c_first_gone c_last_new c_chain_down : Fn) : SV := (sAs (gN 8) (eIf (etB (eOp gNe (eMv 0) (eOp gAdd (eMv 5) (eMv 6)))) (eMv 8) (eFz (oLst aNil))))
noncomputable def B_chain_down_7 (c_first_gone c_last_new c_chain_down : Fn) : SV := (sOw 9 (oLc (itV (eCall c_chain_down (gV (eMv 1) gNil0))) (gN 11) etT (eOp gAdd (eOp gAdd (eMv 11) (eMv 2)) (eMv 6)) [11]))
noncomputable def B_chain_down_8 (c_first_gone c_last_new c_chain_down : Fn) : SV := (sOw 10 (oLc (itV (eCall c_chain_down (gV (eMv 4) gNil0))) (gN 11) etT (eOp gAdd (eSl (eIxN 9 (eNeg (eC (.int 1)))) pNo (pOf (eOp gSub (e1 gLen (sqV (eIxN 9 (eNeg (eC (.int 1)))))) (e1 gLen (sqL 4))))) (eMv 11)) [11]))
noncomputable def B_chain_down_9 (c_first_gone c_last_new c_chain_down : Fn) : SV := (sRet (eOp gAdd (eOp gAdd (eMv 8) (eMv 9)) (eSl (eMv 10) (pOf (eC (.int 1))) pNo)))
noncomputable def B_chain_down (c_first_gone c_last_new c_chain_down : Fn) : SV := (sSeq (B_chain_down_0 c_first_gone c_last_new c_chain_down) (sSeq (B_chain_down_1 c_first_gone c_last_new c_chain_down) (sSeq (B_chain_down_2 c_first_gone c_last_new c_chain_down) (sSeq (B_chain_down_3 c_first_gone c_last_new c_chain_down) (sSeq (B_chain_down_4 c_first_gone c_last_new c_chain_down) (sSeq (B_chain_down_5 c_first_gone c_last_new c_chain_down) (sSeq (B_chain_down_6 c_first_gone c_last_new c_chain_down) (sSeq (B_chain_down_7 c_first_gone c_last_new c_chain_down) (sSeq (B_chain_down_8 c_first_gone c_last_new c_chain_down) (sSeq (B_chain_down_9 c_first_gone c_last_new c_chain_down) sNx))))))))))
noncomputable def B_chain_between (c_alike c_chain_down : Fn) : SV := (sSeq (sIf (tNo (etB (eCall c_alike (gV (eMv 0) (gV (eMv 1) gNil0))))) (sSeq (sRet (eC .non)) sNx) sNx) (sSeq (sAs (gN 2) (eOp gAdd (eCall c_chain_down (gV (eMv 0) gNil0)) (eRev (eCall c_chain_down (gV (eMv 1) gNil0))))) (sSeq (sRet (e1 gTup (sqO (oLc (itEn (eMv 2)) (gU 2 (gCn (gN 3) (gCn (gN 4) gNl))) (tOr' (etB (eOp gEq (eMv 3) (eC (.int 0)))) (etB (eOp gNe (eIxN 2 (eOp gSub (eMv 3) (eC (.int 1)))) (eMv 4)))) (eMv 4) [3, 4])))) sNx)))
noncomputable def B_known_letters : SV := (sSeq (sRet (eM1 gJoin (eC (.str [])) (sqO (oLc (itV (eIxN 0 (eC (.int 1)))) (gU 2 (gCn (gN 1) (gCn (gN 2) gNl))) etT (eMv 1) [1, 2])))) sNx)
noncomputable def B_check_known (c_known_letters : Fn) : SV := (sSeq (sAs (gN 2) (eCall c_known_letters (gV (eMv 0) gNil0))) (sSeq (sFor (itV (eMv 1)) (gN 3) (sSeq (sIf (etB (eOpS (gIn true) (eMv 3) (sqL 2))) (sSeq sNo sNx) sNx) sNx)) sNx))
noncomputable def B_check_names : SV := (sSeq (sIf (tOr' (etB (eOp gNe (e1 gLen (sqL 1)) (e1 gLen (sqL 2)))) (tOr' (etB (eOp gNe (eLS (eMv 1)) (e1 gLen (sqL 1)))) (etB (eOp gNe (eLS (eMv 2)) (e1 gLen (sqL 2)))))) (sSeq sNo sNx) sNx) (sSeq (sFor (itV (eMv 0)) (gN 3) (sSeq (sIf (etB (eOpS (gIn true) (eMv 3) (sqL 1))) (sSeq sNo sNx) sNx) sNx)) sNx))
noncomputable def B_check_state : SV := (sSeq (sIf (tNo (etB (eChn gLe gLt (eC (.int 0)) (eMv 1) (eIxN 0 (eC (.int 0)))))) (sSeq sNo sNx) sNx) sNx)
noncomputable def B_common : SV := (sSeq (sAs (gN 2) (eC (.int 0))) (sSeq (sWh (tAn (etB (eOp gLt (eMv 2) (eOp gMin2 (e1 gLen (sqL 0)) (e1 gLen (sqL 1))))) (etB (eOp gEq (eIxN 0 (eMv 2)) (eIxN 1 (eMv 2))))) (sSeq (sAug gIadd 2 (eC (.int 1))) sNx)) (sSeq (sRet (eMv 2)) sNx)))
noncomputable def B_count_free : SV := (sSeq (sAs (gN 1) (eC (.int 1))) (sSeq (sFor (itR2 (eC (.int 1)) (eOp gAdd (eMv 0) (eC (.int 1)))) (gN 2) (sSeq (sAs (gN 1) (eOp gPow (eOp gMul (eMv 2) (eMv 1)) (eC (.int 2)))) sNx)) (sSeq (sRet (eMv 1)) sNx)))
noncomputable def B_cut_to : SV := (sSeq (sAs (gN 5) (eIf (etB (eIsi ["str"] (eMv 0))) (e1 gLen (sqL 0)) (eIxN 1 (eMv 0)))) (sSeq (sRet (eTup (aCons (eOp gMax2 (eC (.int 0)) (eOp gSub (eMv 3) (eMv 2))) (aCons (eOp gMin2 (eMv 5) (eOp gSub (eMv 4) (eMv 2))) (aCons (eMv 5) aNil))))) sNx))
noncomputable def B_fact_of_0 (c_letters_of c_news c_gones c_form_of : Fn) : SV := (sIf (etB (eOp gEq (eMv 0) (eC (.str [102, 105, 114, 115, 116])))) (sSeq (sRet (eSl (eMv 1) pNo (pOf (eC (.int 1))))) sNx) sNx)
noncomputable def B_fact_of_1 (c_letters_of c_news c_gones c_form_of : Fn) : SV := (sIf (etB (eOp gEq (eMv 0) (eC (.str [108, 97, 115, 116])))) (sSeq (sRet (eSl (eMv 1) (pOf (eNeg (eC (.int 1)))) pNo)) sNx) sNx)
noncomputable def B_fact_of_2 (c_letters_of c_news c_gones c_form_of : Fn) : SV := (sIf (etB (eOp gEq (eMv 0) (eC (.str [108, 101, 116, 116, 101, 114, 115])))) (sSeq (sRet (eCall c_letters_of (gV (eMv 1) gNil0))) sNx) sNx)
noncomputable def B_fact_of_3 (c_letters_of c_news c_gones c_form_of : Fn) : SV := (sIf (etB (eOp gEq (eMv 0) (eC (.str [110, 101, 119, 115])))) (sSeq (sRet (eCall c_news (gV (eMv 1) gNil0))) sNx) sNx)
noncomputable def B_fact_of_4 (c_letters_of c_news c_gones c_form_of : Fn) : SV := (sRet (eIf (etB (eOp gEq (eMv 0) (eC (.str [103, 111, 110, 101, 115])))) (eCall c_gones (gV (eMv 1) gNil0)) (eCall c_form_of (gV (eMv 1) gNil0))))
noncomputable def B_fact_of (c_letters_of c_news c_gones c_form_of : Fn) : SV := (sSeq (B_fact_of_0 c_letters_of c_news c_gones c_form_of) (sSeq (B_fact_of_1 c_letters_of c_news c_gones c_form_of) (sSeq (B_fact_of_2 c_letters_of c_news c_gones c_form_of) (sSeq (B_fact_of_3 c_letters_of c_news c_gones c_form_of) (sSeq (B_fact_of_4 c_letters_of c_news c_gones c_form_of) sNx)))))
noncomputable def B_longs_of : SV := (sSeq (sOw 1 (oLst aNil)) (sSeq (sFor (itV (eMv 0)) (gN 2) (sSeq (sEx (eApp 1 (e1 gSum (sqO (oLc (itV (eMv 2)) (gN 3) etT (eIf (etB (eIsi ["str"] (eMv 3))) (e1 gLen (sqL 3)) (eIxN 1 (eMv 3))) [3]))))) sNx)) (sSeq (sRetL 1) sNx)))
noncomputable def B_first_place_0 (c_check_piece c_longs_of : Fn) : SV := (sEx (eCall c_check_piece (gV (eMv 0) (gV (eMv 1) gNil0))))
noncomputable def B_first_place_1 (c_check_piece c_longs_of : Fn) : SV := (sPar [3, 4] (gO (oCall c_longs_of (gV (eMv 0) gNil0)) (gO (oLst aNil) gNil0)))
noncomputable def B_first_place_2 (c_check_piece c_longs_of : Fn) : SV := (sFor (itV (eMv 0)) (gN 5) (sSeq (sAs (gU 2 (gCn (gN 6) (gCn (gN 7) gNl))) (eTup (aCons (eC (.int 0)) (aCons (eC .non) aNil)))) (sSeq (sFor (itV (eMv 5)) (gN 8) (sSeq (sAs (gN 9) (eIf (etB (eIsi ["str"] (eMv 8))) (eM1 gFind (eMv 8) (sqL 2)) (eIxN 4 (eMv 8)))) (sSeq (sIf (tAn (etB (eOp gIs (eMv 7) (eC .non))) (tAn (etB (eOp gIsNot (eMv 9) (eC .non))) (etB (eOp gGe (eMv 9) (eC (.int 0)))))) (sSeq (sAs (gN 7) (eOp gAdd (eMv 6) (eMv 9))) sNx) sNx) (sSeq (sAug gIadd 6 (eIf (etB (eIsi ["str"] (eMv 8))) (e1 gLen (sqL 8)) (eIxN 3 (eMv 8)))) sNx)))) (sSeq (sEx (eApp 4 (eMv 7))) sNx))))
noncomputable def B_first_place_3 (c_check_piece c_longs_of : Fn) : SV := (sRet (eIxN 4 (eMv 1)))
noncomputable def B_first_place (c_check_piece c_longs_of : Fn) : SV := (sSeq (B_first_place_0 c_check_piece c_longs_of) (sSeq (B_first_place_1 c_check_piece c_longs_of) (sSeq (B_first_place_2 c_check_piece c_longs_of) (sSeq (B_first_place_3 c_check_piece c_longs_of) sNx))))
noncomputable def B_form_back (c_plan_of c_form_of : Fn) : SV := (sSeq (sRet (eCall c_form_of (gV (eRev (eCall c_plan_of (gV (eMv 0) gNil0))) gNil0))) sNx)
noncomputable def B_form_in_stretch_0 (c_form_of c_product c_form_in_stretch c_cut_to : Fn) : SV := (sAs (gU 2 (gCn (gN 5) (gCn (gN 6) gNl))) (eMv 1))
noncomputable def B_form_in_stretch_1 (c_form_of c_product c_form_in_stretch c_cut_to : Fn) : SV := (sAs (gU 2 (gCn (gN 7) (gCn (gN 8) gNl))) (eTup (aCons (eTup aNil) (aCons (eC (.int 0)) aNil))))
noncomputable def B_form_in_stretch_2 (c_form_of c_product c_form_in_stretch c_cut_to : Fn) : SV := (sFor (itV (eIxN 0 (eMv 2))) (gN 9) (sSeq (sAs (gU 3 (gCn (gN 10) (gCn (gN 11) (gCn (gN 12) gNl)))) (eCall c_cut_to (gV (eMv 9) (gV (eMv 5) (gV (eMv 8) (gV (eMv 3) (gV (eMv 4) gNil0))))))) (sSeq (sIf (etB (eOp gLt (eMv 10) (eMv 11))) (sSeq (sIf (etB (eIsi ["str"] (eMv 9))) (sSeq (sAs (gN 7) (eCall c_product (gV (eMv 7) (gV (eCall c_form_of (gV (eSl (eMv 9) (pOf (eMv 10)) (pOf (eMv 11))) gNil0)) gNil0)))) sNx) (sSeq (sAs (gN 13) (eAnd (eOp gEq (eMv 10) (eC (.int 0))) (eOp gEq (eMv 11) (eMv 12)))) (sSeq (sAs (gN 7) (eCall c_product (gV (eMv 7) (gV (eIf (etB (eMv 13)) (eIxN 6 (eMv 9)) (eCall c_form_in_stretch (gV (eMv 0) (gV (eMv 1) (gV (eMv 9) (gV (eMv 10) (gV (eMv 11) gNil0))))))) gNil0)))) sNx))) sNx) sNx) (sSeq (sAug gIadd 8 (eMv 12)) sNx))))
noncomputable def B_form_in_stretch_3 (c_form_of c_product c_form_in_stretch c_cut_to : Fn) : SV := (sRet (eMv 7))
noncomputable def B_form_in_stretch (c_form_of c_product c_form_in_stretch c_cut_to : Fn) : SV := (sSeq (B_form_in_stretch_0 c_form_of c_product c_form_in_stretch c_cut_to) (sSeq (B_form_in_stretch_1 c_form_of c_product c_form_in_stretch c_cut_to) (sSeq (B_form_in_stretch_2 c_form_of c_product c_form_in_stretch c_cut_to) (sSeq (B_form_in_stretch_3 c_form_of c_product c_form_in_stretch c_cut_to) sNx))))
noncomputable def B_form_between (c_check_piece c_forms_of c_longs_of c_form_in_stretch : Fn) : SV := (sSeq (sEx (eCall c_check_piece (gV (eMv 0) (gV (eMv 1) gNil0)))) (sSeq (sRet (eCall c_form_in_stretch (gV (eMv 0) (gV (eTup (aCons (eFz (oCall c_longs_of (gV (eMv 0) gNil0))) (aCons (eFz (oCall c_forms_of (gV (eMv 0) gNil0))) aNil))) (gV (eMv 1) (gV (eMv 2) (gV (eMv 3) gNil0))))))) sNx))
noncomputable def B_renamed (c_check_names : Fn) : SV := (sSeq (sEx (eCall c_check_names (gV (eMv 0) (gV (eMv 1) (gV (eMv 2) gNil0))))) (sSeq (sRet (eM1 gJoin (eC (.str [])) (sqO (oLc (itV (eMv 0)) (gN 3) etT (eIxN 2 (eM1 gFind (eMv 1) (sqL 3))) [3])))) sNx))
noncomputable def B_form_renamed (c_plan_of c_renamed c_form_of : Fn) : SV := (sSeq (sRet (eCall c_form_of (gV (eCall c_renamed (gV (eCall c_plan_of (gV (eMv 0) gNil0)) (gV (eMv 1) (gV (eMv 2) gNil0)))) gNil0))) sNx)
noncomputable def B_form_text (c_form_text : Fn) : SV := (sSeq (sIf (etB (eOp gEq (e1 gLen (sqL 0)) (eC (.int 0)))) (sSeq (sRet (eC (.str [46]))) sNx) sNx) (sSeq (sRet (eOp gAdd (eOp gAdd (eOp gAdd (eOp gAdd (eOp gAdd (eC (.str [40])) (eCall c_form_text (gV (eIxN 0 (eC (.int 0))) gNil0))) (eIxN 0 (eC (.int 1)))) (eIxN 0 (eC (.int 2)))) (eCall c_form_text (gV (eIxN 0 (eC (.int 3))) gNil0))) (eC (.str [41])))) sNx))
noncomputable def B_form_without (c_plan_of c_form_of : Fn) : SV := (sSeq (sRet (eCall c_form_of (gV (eM1 gJoin (eC (.str [])) (sqO (oLc (itV (eCall c_plan_of (gV (eMv 0) gNil0))) (gN 2) (etB (eOpS (gIn true) (eMv 2) (sqL 1))) (eMv 2) [2]))) gNil0))) sNx)
noncomputable def B_halves (c_halves : Fn) : SV := (sSeq (sRet (eIf (etB (eOp gGt (eMv 0) (eC (.int 0)))) (eOp gMul (eOp gMul (eMv 0) (eCall c_halves (gV (eOp gSub (eMv 0) (eC (.int 1))) gNil0))) (eCall c_halves (gV (eOp gSub (eMv 0) (eC (.int 1))) gNil0))) (eC (.int 1)))) sNx)
noncomputable def B_holds (c_form_of : Fn) : SV := (sSeq (sRet (eOp gEq (eCall c_form_of (gV (eOp gAdd (eOp gAdd (eMv 1) (eMv 0)) (eMv 2)) gNil0)) (eCall c_form_of (gV (eMv 0) gNil0)))) sNx)
noncomputable def B_how_many_among (c_how_many_forms : Fn) : SV := (sSeq (sAs (gU 2 (gCn (gN 1) (gCn (gN 2) gNl))) (eTup (aCons (eC (.int 0)) (aCons (eC (.int 1)) aNil)))) (sSeq (sFor (itR1 (eOp gAdd (eMv 0) (eC (.int 1)))) (gN 3) (sSeq (sAug gIadd 1 (eOp gMul (eMv 2) (eCall c_how_many_forms (gV (eMv 3) gNil0)))) (sSeq (sAs (gN 2) (eOp gDiv (eOp gMul (eMv 2) (eOp gSub (eMv 0) (eMv 3))) (eOp gAdd (eMv 3) (eC (.int 1))))) sNx))) (sSeq (sRet (eMv 1)) sNx)))
noncomputable def B_stages (c_form_of : Fn) : SV := (sSeq (sOw 1 (oLc (itEn (eMv 0)) (gU 2 (gCn (gN 2) (gCn (gN 3) gNl))) (etB (eOpS (gIn true) (eMv 3) (sqV (eSl (eMv 0) pNo (pOf (eMv 2)))))) (eMv 2) [2, 3])) (sSeq (sRet (e1 gTup (sqV (eOp gAdd (eFz (oLc (itV (eMv 1)) (gN 2) etT (eCall c_form_of (gV (eSl (eMv 0) pNo (pOf (eMv 2))) gNil0)) [2])) (eFz (oLst (aCons (eCall c_form_of (gV (eMv 0) gNil0)) aNil))))))) sNx))
noncomputable def B_tupled (c_tupled : Fn) : SV := (sSeq (sRet (eIf (etB (eIsi ["list", "tuple"] (eMv 0))) (e1 gTup (sqO (oLc (itV (eMv 0)) (gN 1) etT (eCall c_tupled (gV (eMv 1) gNil0)) [1]))) (eMv 0))) sNx)
noncomputable def B_letters_by_0 (c_letters_by c_letters_of : Fn) : SV := (sIf (tOr' (tNo (etB (eIsi ["tuple"] (eMv 0)))) (etB (eOpS (gIn true) (e1 gLen (sqL 0)) (sqV (eTup (aCons (eC (.int 0)) (aCons (eC (.int 4)) aNil))))))) (sSeq (sRet (eC .non)) sNx) sNx)
noncomputable def B_letters_by_1 (c_letters_by c_letters_of : Fn) : SV := (sIf (etB (eOp gEq (eMv 0) (eTup aNil))) (sSeq (sRet (eC (.str []))) sNx) sNx)
noncomputable def B_letters_by_2 (c_letters_by c_letters_of : Fn) : SV := (sIf (tNo (etB (e1 gAll (sqO (oLc (itV (eTup (aCons (eIxN 0 (eC (.int 1))) (aCons (eIxN 0 (eC (.int 2))) aNil)))) (gN 4) etT (eAnd (eIsi ["str"] (eMv 4)) (eAnd (eOp gEq (e1 gLen (sqL 4)) (eC (.int 1))) (eOpS (gIn false) (eMv 4) (sqV (eC (.str [97, 98, 99, 100, 101, 102, 103, 104])))))) [4]))))) (sSeq (sRet (eC .non)) sNx) sNx)
noncomputable def B_letters_by_3 (c_letters_by c_letters_of : Fn) : SV := (sPar [1, 2] (gV (eCall c_letters_by (gV (eIxN 0 (eC (.int 0))) gNil0)) (gV (eCall c_letters_by (gV (eIxN 0 (eC (.int 3))) gNil0)) gNil0)))
noncomputable def B_letters_by_4 (c_letters_by c_letters_of : Fn) : SV := (sIf (tOr' (etB (eOp gIs (eMv 1) (eC .non))) (tOr' (etB (eOp gIs (eMv 2) (eC .non))) (tOr' (etB (eOpS (gIn false) (eIxN 0 (eC (.int 1))) (sqL 1))) (etB (eOpS (gIn false) (eIxN 0 (eC (.int 2))) (sqL 2)))))) (sSeq (sRet (eC .non)) sNx) sNx)
noncomputable def B_letters_by_5 (c_letters_by c_letters_of : Fn) : SV := (sAs (gN 3) (eCall c_letters_of (gV (eOp gAdd (eMv 1) (eIxN 0 (eC (.int 1)))) gNil0)))
noncomputable def B_letters_by_6 (c_letters_by c_letters_of : Fn) : SV := (sRet (eIf (etB (eOp gEq (eMv 3) (eCall c_letters_of (gV (eOp gAdd (eMv 2) (eIxN 0 (eC (.int 2)))) gNil0)))) (eMv 3) (eC .non)))
noncomputable def B_letters_by (c_letters_by c_letters_of : Fn) : SV := (sSeq (B_letters_by_0 c_letters_by c_letters_of) (sSeq (B_letters_by_1 c_letters_by c_letters_of) (sSeq (B_letters_by_2 c_letters_by c_letters_of) (sSeq (B_letters_by_3 c_letters_by c_letters_of) (sSeq (B_letters_by_4 c_letters_by c_letters_of) (sSeq (B_letters_by_5 c_letters_by c_letters_of) (sSeq (B_letters_by_6 c_letters_by c_letters_of) sNx)))))))
noncomputable def B_letters_in (c_tupled c_letters_by : Fn) : SV := (sSeq (sRet (eCall c_letters_by (gV (eCall c_tupled (gV (eMv 0) gNil0)) gNil0))) sNx)
noncomputable def B_how_many_starts (c_stages c_letters_in c_halves : Fn) : SV := (sSeq (sRet (e1 gSum (sqO (oLc (itV (eCall c_stages (gV (eMv 0) gNil0))) (gN 1) etT (eCall c_halves (gV (e1 gLen (sqV (eCall c_letters_in (gV (eMv 1) gNil0)))) gNil0)) [1])))) sNx)
noncomputable def B_how_many_stops (c_how_many_starts : Fn) : SV := (sSeq (sRet (eCall c_how_many_starts (gV (eRev (eMv 0)) gNil0))) sNx)
noncomputable def B_how_often_0 (c_check_piece : Fn) : SV := (sEx (eCall c_check_piece (gV (eMv 0) (gV (eMv 1) gNil0))))
noncomputable def B_how_often_1 (c_check_piece : Fn) : SV := (sOw 3 (oLst aNil))
noncomputable def B_how_often_2 (c_check_piece : Fn) : SV := (sFor (itV (eMv 0)) (gN 4) (sSeq (sEx (eApp 3 (e1 gSum (sqO (oLc (itV (eMv 4)) (gN 5) etT (eIf (etB (eIsi ["str"] (eMv 5))) (eM1 gCount (eMv 5) (sqL 2)) (eIxN 3 (eMv 5))) [5]))))) sNx))
noncomputable def B_how_often_3 (c_check_piece : Fn) : SV := (sRet (eIxN 3 (eMv 1)))
noncomputable def B_how_often (c_check_piece : Fn) : SV := (sSeq (B_how_often_0 c_check_piece) (sSeq (B_how_often_1 c_check_piece) (sSeq (B_how_often_2 c_check_piece) (sSeq (B_how_often_3 c_check_piece) sNx))))
noncomputable def B_is_shortening_0 (c_common : Fn) : SV := (sAs (gN 2) (eOp gSub (e1 gLen (sqL 0)) (e1 gLen (sqL 1))))
noncomputable def B_is_shortening_1 (c_common : Fn) : SV := (sIf (etB (eOp gLt (eMv 2) (eC (.int 1)))) (sSeq (sRet (eC (.bl false))) sNx) sNx)
noncomputable def B_is_shortening_2 (c_common : Fn) : SV := (sAs (gN 3) (eOp gSub (e1 gLen (sqL 1)) (eCall c_common (gV (eRev (eMv 0)) (gV (eRev (eMv 1)) gNil0)))))
noncomputable def B_is_shortening_3 (c_common : Fn) : SV := (sAs (gN 4) (eOp gMin2 (eCall c_common (gV (eMv 0) (gV (eMv 1) gNil0))) (eOp gAdd (eMv 3) (eMv 2))))
noncomputable def B_is_shortening_4 (c_common : Fn) : SV := (sRet (eAnd (eOp gGt (eMv 4) (eMv 3)) (e1 gAll (sqO (oLc (itV (eSl (eMv 0) (pOf (eMv 4)) (pOf (eOp gAdd (eMv 3) (eMv 2))))) (gN 5) etT (eOpS (gIn false) (eMv 5) (sqV (eSl (eMv 0) (pOf (eMv 3)) (pOf (eMv 4))))) [5])))))
noncomputable def B_is_shortening (c_common : Fn) : SV := (sSeq (B_is_shortening_0 c_common) (sSeq (B_is_shortening_1 c_common) (sSeq (B_is_shortening_2 c_common) (sSeq (B_is_shortening_3 c_common) (sSeq (B_is_shortening_4 c_common) sNx)))))
noncomputable def B_is_chain (c_is_shortening : Fn) : SV := (sSeq (sIf (tOr' (tNo (etB (eIsi ["tuple"] (eMv 2)))) (tOr' (etB (eOp gEq (e1 gLen (sqL 2)) (eC (.int 0)))) (tNo (etB (e1 gAll (sqO (oLc (itV (eMv 2)) (gN 3) etT (eIsi ["str"] (eMv 3)) [3]))))))) (sSeq (sRet (eC (.bl false))) sNx) sNx) (sSeq (sIf (tOr' (etB (eOp gNe (eIxN 2 (eC (.int 0))) (eMv 0))) (etB (eOp gNe (eIxN 2 (eNeg (eC (.int 1)))) (eMv 1)))) (sSeq (sRet (eC (.bl false))) sNx) sNx) (sSeq (sRet (e1 gAll (sqO (oLc (itZ (eMv 2) (eSl (eMv 2) (pOf (eC (.int 1))) pNo)) (gU 2 (gCn (gN 3) (gCn (gN 4) gNl))) etT (eOr (eCall c_is_shortening (gV (eMv 3) (gV (eMv 4) gNil0))) (eCall c_is_shortening (gV (eMv 4) (gV (eMv 3) gNil0)))) [3, 4])))) sNx)))
noncomputable def B_is_form (c_letters_by : Fn) : SV := (sSeq (sRet (eOp gIsNot (eCall c_letters_by (gV (eMv 0) gNil0)) (eC .non))) sNx)
noncomputable def B_is_known (c_are_numbers : Fn) : SV := (sSeq (sIf (tOr' (tNo (etB (eIsi ["tuple"] (eMv 1)))) (tOr' (etB (eOp gNe (e1 gLen (sqL 1)) (eC (.int 2)))) (tOr' (tNo (etB (eIsi ["str"] (eIxN 1 (eC (.int 0)))))) (etB (eOp gNe (e1 gLen (sqV (eIxN 1 (eC (.int 0))))) (eC (.int 1))))))) (sSeq (sRet (eC (.bl false))) sNx) sNx) (sSeq (sRet (eAnd (eOpS (gIn false) (eIxN 1 (eC (.int 0))) (sqV (eC (.str [97, 98, 99, 100, 101, 102, 103, 104])))) (eAnd (eCall c_are_numbers (gV (eIxN 1 (eC (.int 1))) (gV (eMv 0) (gV (eC (.int 0)) gNil0)))) (eOp gLt (e1 gMax (sqV (eIxN 1 (eC (.int 1))))) (eMv 0))))) sNx))
noncomputable def B_rises : SV := (sSeq (sRet (e1 gAll (sqO (oLc (itZ (eMv 0) (eSl (eMv 0) (pOf (eC (.int 1))) pNo)) (gU 2 (gCn (gN 1) (gCn (gN 2) gNl))) etT (eOp gLt (eMv 1) (eMv 2)) [1, 2])))) sNx)
noncomputable def B_is_machine (c_is_number c_is_known c_rises : Fn) : SV := (sSeq (sIf (tOr' (tNo (etB (eIsi ["tuple"] (eMv 0)))) (tOr' (etB (eOp gNe (e1 gLen (sqL 0)) (eC (.int 2)))) (tOr' (tNo (etB (eCall c_is_number (gV (eIxN 0 (eC (.int 0))) gNil0)))) (etB (eOp gLt (eIxN 0 (eC (.int 0))) (eC (.int 1))))))) (sSeq (sRet (eC (.bl false))) sNx) sNx) (sSeq (sIf (tOr' (tNo (etB (eIsi ["tuple"] (eIxN 0 (eC (.int 1)))))) (tOr' (etB (eOp gEq (e1 gLen (sqV (eIxN 0 (eC (.int 1))))) (eC (.int 0)))) (tNo (etB (e1 gAll (sqO (oLc (itV (eIxN 0 (eC (.int 1)))) (gN 1) etT (eCall c_is_known (gV (eIxN 0 (eC (.int 0))) (gV (eMv 1) gNil0))) [1]))))))) (sSeq (sRet (eC (.bl false))) sNx) sNx) (sSeq (sRet (eCall c_rises (gV (eFz (oLc (itV (eIxN 0 (eC (.int 1)))) (gU 2 (gCn (gN 2) (gCn (gN 3) gNl))) etT (eMv 2) [2, 3])) gNil0))) sNx)))
noncomputable def B_is_plan : SV := (sSeq (sRet (eAnd (eIsi ["str"] (eMv 0)) (e1 gAll (sqO (oLc (itV (eMv 0)) (gN 1) etT (eOpS (gIn false) (eMv 1) (sqV (eC (.str [97, 98, 99, 100, 101, 102, 103, 104])))) [1]))))) sNx)
noncomputable def B_is_middle (c_is_plan c_form_of : Fn) : SV := (sSeq (sRet (eAnd (eCall c_is_plan (gV (eMv 3) gNil0)) (eOp gEq (eCall c_form_of (gV (eOp gAdd (eOp gAdd (eMv 1) (eMv 3)) (eMv 2)) gNil0)) (eCall c_form_of (gV (eMv 0) gNil0))))) sNx)
noncomputable def B_is_name : SV := (sSeq (sRet (eAnd (eIsi ["str"] (eMv 0)) (eAnd (eChn gLe gLe (eC (.int 1)) (e1 gLen (sqL 0)) (eC (.int 8))) (e1 gAll (sqO (oLc (itV (eMv 0)) (gN 1) etT (eOpS (gIn false) (eMv 1) (sqV (eC (.str [97, 98, 99, 100, 101, 102, 103, 104, 105, 106, 107, 108, 109, 110, 111, 112, 113, 114, 115, 116, 117, 118, 119, 120, 121, 122])))) [1])))))) sNx)
noncomputable def B_is_way : SV := (sSeq (sRet (eAnd (eIsi ["str"] (eMv 0)) (e1 gAll (sqO (oLc (itV (eMv 0)) (gN 1) etT (eOpS (gIn false) (eMv 1) (sqV (eC (.str [60, 62])))) [1]))))) sNx)
noncomputable def B_is_question (c_is_way : Fn) : SV := (sSeq (sRet (eAnd (eIsi ["str"] (eMv 0)) (eAnd (eOp gNe (eMv 0) (eC (.str []))) (eAnd (eCall c_is_way (gV (eSl (eMv 0) pNo (pOf (eNeg (eC (.int 1))))) gNil0)) (eOpS (gIn false) (eIxN 0 (eNeg (eC (.int 1)))) (sqV (eC (.str [63, 97, 98])))))))) sNx)
noncomputable def B_is_parting (c_is_question c_answer : Fn) : SV := (sSeq (sRet (eAnd (eCall c_is_question (gV (eMv 2) gNil0)) (eOp gNe (eCall c_answer (gV (eMv 0) (gV (eMv 2) gNil0))) (eCall c_answer (gV (eMv 1) (gV (eMv 2) gNil0)))))) sNx)
noncomputable def B_is_row (c_is_way : Fn) : SV := (sSeq (sIf (tOr' (tNo (etB (eIsi ["tuple"] (eMv 0)))) (tOr' (etB (eOp gNe (e1 gLen (sqL 0)) (eC (.int 3)))) (tNo (etB (eCall c_is_way (gV (eIxN 0 (eC (.int 0))) gNil0)))))) (sSeq (sRet (eC (.bl false))) sNx) sNx) (sSeq (sRet (e1 gAll (sqO (oLc (itV (eSl (eMv 0) (pOf (eC (.int 1))) pNo)) (gN 1) etT (eAnd (eIsi ["str"] (eMv 1)) (eAnd (eOp gEq (e1 gLen (sqL 1)) (eC (.int 1))) (eOpS (gIn false) (eMv 1) (sqV (eC (.str [97, 98, 99, 100, 101, 102, 103, 104])))))) [1])))) sNx))
noncomputable def B_last_place_0 (c_check_piece c_longs_of : Fn) : SV := (sEx (eCall c_check_piece (gV (eMv 0) (gV (eMv 1) gNil0))))
noncomputable def B_last_place_1 (c_check_piece c_longs_of : Fn) : SV := (sPar [3, 4] (gO (oCall c_longs_of (gV (eMv 0) gNil0)) (gO (oLst aNil) gNil0)))
noncomputable def B_last_place_2 (c_check_piece c_longs_of : Fn) : SV := (sFor (itV (eMv 0)) (gN 5) (sSeq (sAs (gU 2 (gCn (gN 6) (gCn (gN 7) gNl))) (eTup (aCons (eC (.int 0)) (aCons (eC .non) aNil)))) (sSeq (sFor (itV (eMv 5)) (gN 8) (sSeq (sAs (gN 9) (eIf (etB (eIsi ["str"] (eMv 8))) (eM1 gRfind (eMv 8) (sqL 2)) (eIxN 4 (eMv 8)))) (sSeq (sIf (tAn (etB (eOp gIsNot (eMv 9) (eC .non))) (etB (eOp gGe (eMv 9) (eC (.int 0))))) (sSeq (sAs (gN 7) (eOp gAdd (eMv 6) (eMv 9))) sNx) sNx) (sSeq (sAug gIadd 6 (eIf (etB (eIsi ["str"] (eMv 8))) (e1 gLen (sqL 8)) (eIxN 3 (eMv 8)))) sNx)))) (sSeq (sEx (eApp 4 (eMv 7))) sNx))))
noncomputable def B_last_place_3 (c_check_piece c_longs_of : Fn) : SV := (sRet (eIxN 4 (eMv 1)))
noncomputable def B_last_place (c_check_piece c_longs_of : Fn) : SV := (sSeq (B_last_place_0 c_check_piece c_longs_of) (sSeq (B_last_place_1 c_check_piece c_longs_of) (sSeq (B_last_place_2 c_check_piece c_longs_of) (sSeq (B_last_place_3 c_check_piece c_longs_of) sNx))))
noncomputable def B_stretch_in (c_stretch_in c_cut_to : Fn) : SV := (sSeq (sAs (gU 2 (gCn (gN 5) (gCn (gN 6) gNl))) (eTup (aCons (eC (.str [])) (aCons (eC (.int 0)) aNil)))) (sSeq (sFor (itV (eIxN 0 (eMv 2))) (gN 7) (sSeq (sAs (gU 3 (gCn (gN 8) (gCn (gN 9) (gCn (gN 10) gNl)))) (eCall c_cut_to (gV (eMv 7) (gV (eMv 1) (gV (eMv 6) (gV (eMv 3) (gV (eMv 4) gNil0))))))) (sSeq (sIf (etB (eOp gLt (eMv 8) (eMv 9))) (sSeq (sAug gIadd 5 (eIf (etB (eIsi ["str"] (eMv 7))) (eSl (eMv 7) (pOf (eMv 8)) (pOf (eMv 9))) (eCall c_stretch_in (gV (eMv 0) (gV (eMv 1) (gV (eMv 7) (gV (eMv 8) (gV (eMv 9) gNil0)))))))) sNx) sNx) (sSeq (sAug gIadd 6 (eMv 10)) sNx)))) (sSeq (sRet (eMv 5)) sNx)))
noncomputable def B_stretch_of (c_check_piece c_longs_of c_stretch_in : Fn) : SV := (sSeq (sEx (eCall c_check_piece (gV (eMv 0) (gV (eMv 1) gNil0)))) (sSeq (sRet (eCall c_stretch_in (gV (eMv 0) (gV (eFz (oCall c_longs_of (gV (eMv 0) gNil0))) (gV (eMv 1) (gV (eMv 2) (gV (eOp gAdd (eMv 2) (eMv 3)) gNil0))))))) sNx))
noncomputable def B_letter_at (c_check_piece c_stretch_of : Fn) : SV := (sSeq (sEx (eCall c_check_piece (gV (eMv 0) (gV (eMv 1) gNil0)))) (sSeq (sAs (gN 3) (eIf (etB (eOp gGe (eMv 2) (eC (.int 0)))) (eCall c_stretch_of (gV (eMv 0) (gV (eMv 1) (gV (eMv 2) (gV (eC (.int 1)) gNil0))))) (eC (.str [])))) (sSeq (sRet (eIf (etB (eOp gNe (eMv 3) (eC (.str [])))) (eMv 3) (eC .non))) sNx)))
noncomputable def B_letters_at_0 (c_letters_at c_letters_of : Fn) : SV := (sIf (etB (eOpS (gIn true) (eMv 1) (sqL 0))) (sSeq (sRet (eC (.str []))) sNx) sNx)
noncomputable def B_letters_at_1 (c_letters_at c_letters_of : Fn) : SV := (sAs (gU 2 (gCn (gN 2) (gCn (gN 3) gNl))) (eIxN 0 (eMv 1)))
noncomputable def B_letters_at_2 (c_letters_at c_letters_of : Fn) : SV := (sPar [4, 5] (gV (eCall c_letters_at (gV (eMv 0) (gV (eOp gAdd (eMv 1) (eC (.str [60]))) gNil0))) (gV (eCall c_letters_at (gV (eMv 0) (gV (eOp gAdd (eMv 1) (eC (.str [62]))) gNil0))) gNil0)))
noncomputable def B_letters_at_3 (c_letters_at c_letters_of : Fn) : SV := (sIf (tOr' (etB (eOp gIs (eMv 4) (eC .non))) (tOr' (etB (eOp gIs (eMv 5) (eC .non))) (tOr' (etB (eOpS (gIn false) (eMv 2) (sqL 4))) (etB (eOpS (gIn false) (eMv 3) (sqL 5)))))) (sSeq (sRet (eC .non)) sNx) sNx)
noncomputable def B_letters_at_4 (c_letters_at c_letters_of : Fn) : SV := (sAs (gN 6) (eCall c_letters_of (gV (eOp gAdd (eMv 4) (eMv 2)) gNil0)))
noncomputable def B_letters_at_5 (c_letters_at c_letters_of : Fn) : SV := (sRet (eIf (etB (eOp gEq (eMv 6) (eCall c_letters_of (gV (eOp gAdd (eMv 5) (eMv 3)) gNil0)))) (eMv 6) (eC .non)))
noncomputable def B_letters_at (c_letters_at c_letters_of : Fn) : SV := (sSeq (B_letters_at_0 c_letters_at c_letters_of) (sSeq (B_letters_at_1 c_letters_at c_letters_of) (sSeq (B_letters_at_2 c_letters_at c_letters_of) (sSeq (B_letters_at_3 c_letters_at c_letters_of) (sSeq (B_letters_at_4 c_letters_at c_letters_of) (sSeq (B_letters_at_5 c_letters_at c_letters_of) sNx))))))
noncomputable def B_letters_told (c_letters_told : Fn) : SV := (sSeq (sRet (eIf (etB (eOp gNe (eMv 0) (eTup aNil))) (eOp gAdd (eCall c_letters_told (gV (eIxN 0 (eC (.int 0))) gNil0)) (eIxN 0 (eC (.int 1)))) (eC (.str [])))) sNx)
noncomputable def B_long_of (c_check_piece c_longs_of : Fn) : SV := (sSeq (sEx (eCall c_check_piece (gV (eMv 0) (gV (eMv 1) gNil0)))) (sSeq (sRet (eOp gIxD (eFz (oCall c_longs_of (gV (eMv 0) gNil0))) (eMv 1))) sNx))
noncomputable def B_middle (c_holds c_form_of c_plan_of : Fn) : SV := (sSeq (sRet (eIf (etB (eCall c_holds (gV (eMv 0) (gV (eMv 1) (gV (eMv 2) gNil0))))) (eCall c_plan_of (gV (eCall c_form_of (gV (eMv 0) gNil0)) gNil0)) (eC .non))) sNx)
noncomputable def B_sets_of : SV := (sSeq (sAs (gN 1) (eFz (oLst (aCons (eC (.str [])) aNil)))) (sSeq (sFor (itV (eMv 0)) (gN 2) (sSeq (sAs (gN 1) (eOp gAdd (eMv 1) (eFz (oLc (itV (eMv 1)) (gN 3) etT (eOp gAdd (eMv 3) (eMv 2)) [3])))) sNx)) (sSeq (sRetO (o1 gSort (sqL 1))) sNx)))
noncomputable def B_nth_among_0 (c_sets_of c_nth_form c_how_many_forms : Fn) : SV := (sAs (gN 2) (eMv 1))
noncomputable def B_nth_among_1 (c_sets_of c_nth_form c_how_many_forms : Fn) : SV := (sIf (etB (eOp gLt (eMv 1) (eC (.int 0)))) (sSeq (sRet (eC .non)) sNx) sNx)
noncomputable def B_nth_among_2 (c_sets_of c_nth_form c_how_many_forms : Fn) : SV := (sFor (itV (eFz (oCall c_sets_of (gV (eMv 0) gNil0)))) (gN 3) (sSeq (sAs (gN 4) (eCall c_how_many_forms (gV (e1 gLen (sqL 3)) gNil0))) (sSeq (sIf (etB (eOp gLt (eMv 2) (eMv 4))) (sSeq (sRet (eCall c_nth_form (gV (eMv 3) (gV (eMv 2) gNil0)))) sNx) sNx) (sSeq (sAug gIsub 2 (eMv 4)) sNx))))
noncomputable def B_nth_among_3 (c_sets_of c_nth_form c_how_many_forms : Fn) : SV := (sRet (eC .non))
noncomputable def B_nth_among (c_sets_of c_nth_form c_how_many_forms : Fn) : SV := (sSeq (B_nth_among_0 c_sets_of c_nth_form c_how_many_forms) (sSeq (B_nth_among_1 c_sets_of c_nth_form c_how_many_forms) (sSeq (B_nth_among_2 c_sets_of c_nth_form c_how_many_forms) (sSeq (B_nth_among_3 c_sets_of c_nth_form c_how_many_forms) sNx))))
noncomputable def B_number_of_0 (c_tupled c_letters_in c_how_many_forms c_number_of : Fn) : SV := (sAs (gN 1) (eCall c_tupled (gV (eMv 0) gNil0)))
noncomputable def B_number_of_1 (c_tupled c_letters_in c_how_many_forms c_number_of : Fn) : SV := (sIf (etB (eOp gEq (eMv 1) (eTup aNil))) (sSeq (sRet (eC (.int 0))) sNx) sNx)
noncomputable def B_number_of_2 (c_tupled c_letters_in c_how_many_forms c_number_of : Fn) : SV := (sAs (gU 4 (gCn (gN 2) (gCn (gN 3) (gCn (gN 4) (gCn (gN 5) gNl))))) (eMv 1))
noncomputable def B_number_of_3 (c_tupled c_letters_in c_how_many_forms c_number_of : Fn) : SV := (sAs (gN 6) (eCall c_letters_in (gV (eMv 1) gNil0)))
noncomputable def B_number_of_4 (c_tupled c_letters_in c_how_many_forms c_number_of : Fn) : SV := (sAs (gN 7) (eCall c_how_many_forms (gV (eOp gSub (e1 gLen (sqL 6)) (eC (.int 1))) gNil0)))
noncomputable def B_number_of_5 (c_tupled c_letters_in c_how_many_forms c_number_of : Fn) : SV := (sAs (gN 8) (eOp gAdd (eOp gMul (eM1 gFind (eMv 6) (sqL 3)) (eMv 7)) (eCall c_number_of (gV (eMv 2) gNil0))))
noncomputable def B_number_of_6 (c_tupled c_letters_in c_how_many_forms c_number_of : Fn) : SV := (sRet (eOp gAdd (eOp gMul (eOp gAdd (eOp gMul (eMv 8) (e1 gLen (sqL 6))) (eM1 gFind (eMv 6) (sqL 4))) (eMv 7)) (eCall c_number_of (gV (eMv 5) gNil0))))
noncomputable def B_number_of (c_tupled c_letters_in c_how_many_forms c_number_of : Fn) : SV := (sSeq (B_number_of_0 c_tupled c_letters_in c_how_many_forms c_number_of) (sSeq (B_number_of_1 c_tupled c_letters_in c_how_many_forms c_number_of) (sSeq (B_number_of_2 c_tupled c_letters_in c_how_many_forms c_number_of) (sSeq (B_number_of_3 c_tupled c_letters_in c_how_many_forms c_number_of) (sSeq (B_number_of_4 c_tupled c_letters_in c_how_many_forms c_number_of) (sSeq (B_number_of_5 c_tupled c_letters_in c_how_many_forms c_number_of) (sSeq (B_number_of_6 c_tupled c_letters_in c_how_many_forms c_number_of) sNx)))))))
noncomputable def B_number_among_0 (c_tupled c_letters_in c_sets_of c_how_many_forms c_number_of : Fn) : SV := (sPar [2, 3] (gV (eCall c_letters_in (gV (eCall c_tupled (gV (eMv 0) gNil0)) gNil0)) (gV (eC (.int 0)) gNil0)))
noncomputable def B_number_among_1 (c_tupled c_letters_in c_sets_of c_how_many_forms c_number_of : Fn) : SV := (sFor (itV (eMv 2)) (gN 4) (sSeq (sIf (etB (eOpS (gIn true) (eMv 4) (sqL 1))) (sSeq sNo sNx) sNx) sNx))
noncomputable def B_number_among_2 (c_tupled c_letters_in c_sets_of c_how_many_forms c_number_of : Fn) : SV := (sFor (itV (eFz (oCall c_sets_of (gV (eMv 1) gNil0)))) (gN 5) (sSeq (sIf (etB (eOp gEq (eMv 5) (eMv 2))) (sSeq (sRet (eOp gAdd (eMv 3) (eCall c_number_of (gV (eMv 0) gNil0)))) sNx) sNx) (sSeq (sAug gIadd 3 (eCall c_how_many_forms (gV (e1 gLen (sqL 5)) gNil0))) sNx)))
noncomputable def B_number_among_3 (c_tupled c_letters_in c_sets_of c_how_many_forms c_number_of : Fn) : SV := (sRet (eMv 3))
noncomputable def B_number_among (c_tupled c_letters_in c_sets_of c_how_many_forms c_number_of : Fn) : SV := (sSeq (B_number_among_0 c_tupled c_letters_in c_sets_of c_how_many_forms c_number_of) (sSeq (B_number_among_1 c_tupled c_letters_in c_sets_of c_how_many_forms c_number_of) (sSeq (B_number_among_2 c_tupled c_letters_in c_sets_of c_how_many_forms c_number_of) (sSeq (B_number_among_3 c_tupled c_letters_in c_sets_of c_how_many_forms c_number_of) sNx))))
noncomputable def B_part_in_0 (c_part_in : Fn) : SV := (sIf (etB (eOp gEq (eSl (eMv 0) (pOf (eMv 1)) (pOf (eOp gAdd (eMv 1) (eC (.int 1))))) (eC (.str [46])))) (sSeq (sRet (eTup (aCons (eTup aNil) (aCons (eOp gAdd (eMv 1) (eC (.int 1))) aNil)))) sNx) sNx)
noncomputable def B_part_in_1 (c_part_in : Fn) : SV := (sIf (etB (eOp gNe (eSl (eMv 0) (pOf (eMv 1)) (pOf (eOp gAdd (eMv 1) (eC (.int 1))))) (eC (.str [40])))) (sSeq sNo sNx) sNx)
noncomputable def B_part_in_2 (c_part_in : Fn) : SV := (sAs (gU 2 (gCn (gN 2) (gCn (gN 3) gNl))) (eCall c_part_in (gV (eMv 0) (gV (eOp gAdd (eMv 1) (eC (.int 1))) gNil0))))
noncomputable def B_part_in_3 (c_part_in : Fn) : SV := (sAs (gU 2 (gCn (gN 4) (gCn (gN 5) gNl))) (eCall c_part_in (gV (eMv 0) (gV (eOp gAdd (eMv 3) (eC (.int 2))) gNil0))))
noncomputable def B_part_in_4 (c_part_in : Fn) : SV := (sIf (etB (eOp gNe (eSl (eMv 0) (pOf (eMv 5)) (pOf (eOp gAdd (eMv 5) (eC (.int 1))))) (eC (.str [41])))) (sSeq sNo sNx) sNx)
noncomputable def B_part_in_5 (c_part_in : Fn) : SV := (sRet (eTup (aCons (eTup (aCons (eMv 2) (aCons (eSl (eMv 0) (pOf (eMv 3)) (pOf (eOp gAdd (eMv 3) (eC (.int 1))))) (aCons (eSl (eMv 0) (pOf (eOp gAdd (eMv 3) (eC (.int 1)))) (pOf (eOp gAdd (eMv 3) (eC (.int 2))))) (aCons (eMv 4) aNil))))) (aCons (eOp gAdd (eMv 5) (eC (.int 1))) aNil))))
noncomputable def B_part_in (c_part_in : Fn) : SV := (sSeq (B_part_in_0 c_part_in) (sSeq (B_part_in_1 c_part_in) (sSeq (B_part_in_2 c_part_in) (sSeq (B_part_in_3 c_part_in) (sSeq (B_part_in_4 c_part_in) (sSeq (B_part_in_5 c_part_in) sNx))))))
noncomputable def B_plan_text : SV := (sSeq (sRet (eIf (etB (eOp gNe (eMv 0) (eC (.str [])))) (eMv 0) (eC (.str [45])))) sNx)
noncomputable def B_product_of (c_product : Fn) : SV := (sSeq (sAs (gN 1) (eTup aNil)) (sSeq (sFor (itV (eMv 0)) (gN 2) (sSeq (sAs (gN 1) (eCall c_product (gV (eMv 1) (gV (eMv 2) gNil0)))) sNx)) (sSeq (sRet (eMv 1)) sNx)))
noncomputable def B_read_form (c_part_in c_is_form : Fn) : SV := (sSeq (sAs (gU 2 (gCn (gN 1) (gCn (gN 2) gNl))) (eCall c_part_in (gV (eMv 0) (gV (eC (.int 0)) gNil0)))) (sSeq (sIf (tOr' (etB (eOp gNe (eMv 2) (e1 gLen (sqL 0)))) (tNo (etB (eCall c_is_form (gV (eMv 1) gNil0))))) (sSeq sNo sNx) sNx) (sSeq (sRet (eMv 1)) sNx)))
noncomputable def B_read_plan (c_is_plan : Fn) : SV := (sSeq (sIf (etB (eOp gEq (eMv 0) (eC (.str [45])))) (sSeq (sRet (eC (.str []))) sNx) sNx) (sSeq (sIf (tOr' (etB (eOp gEq (eMv 0) (eC (.str [])))) (tNo (etB (eCall c_is_plan (gV (eMv 0) gNil0))))) (sSeq sNo sNx) sNx) (sSeq (sRet (eMv 0)) sNx)))
noncomputable def B_set_order : SV := (sSeq (sRet (eTup (aCons (e1 gLen (sqL 0)) (aCons (eMv 0) aNil)))) sNx)
noncomputable def B_sheet_text (c_plan_text : Fn) : SV := (sSeq (sRet (eM1 gJoin (eC (.str [10])) (sqO (oLc (itV (eMv 0)) (gU 2 (gCn (gN 1) (gCn (gN 2) gNl))) etT (eOp gAdd (eOp gAdd (eMv 1) (eC (.str [32]))) (eCall c_plan_text (gV (eMv 2) gNil0))) [1, 2])))) sNx)
noncomputable def B_shortenings (c_is_shortening : Fn) : SV := (sSeq (sOw 1 oDic) (sSeq (sFor (itR1 (e1 gLen (sqL 0))) (gN 2) (sSeq (sFor (itR2 (eOp gAdd (eMv 2) (eC (.int 1))) (eOp gAdd (e1 gLen (sqL 0)) (eC (.int 1)))) (gN 3) (sSeq (sAs (gN 4) (eOp gAdd (eSl (eMv 0) pNo (pOf (eMv 2))) (eSl (eMv 0) (pOf (eMv 3)) pNo))) (sSeq (sIf (etB (eCall c_is_shortening (gV (eMv 0) (gV (eMv 4) gNil0)))) (sSeq (sPut 1 (eMv 4) (eC (.bl true))) sNx) sNx) sNx))) sNx)) (sSeq (sRetO (o1 gSort (sqL 1))) sNx)))
noncomputable def B_stops (c_form_of : Fn) : SV := (sSeq (sRet (eOp gEq (eCall c_form_of (gV (eOp gAdd (eMv 0) (eMv 1)) gNil0)) (eCall c_form_of (gV (eMv 0) gNil0)))) sNx)
noncomputable def B_swallows (c_form_of : Fn) : SV := (sSeq (sRet (eOp gEq (eCall c_form_of (gV (eOp gAdd (eOp gAdd (eMv 0) (eMv 1)) (eMv 0)) gNil0)) (eCall c_form_of (gV (eMv 0) gNil0)))) sNx)
noncomputable def B_thinned (c_alike : Fn) : SV := (sSeq (sAs (gN 1) (eC (.int 0))) (sSeq (sWh (etB (eOp gLt (eMv 1) (e1 gLen (sqL 0)))) (sSeq (sAs (gN 2) (eOp gAdd (eSl (eMv 0) pNo (pOf (eMv 1))) (eSl (eMv 0) (pOf (eOp gAdd (eMv 1) (eC (.int 1)))) pNo))) (sSeq (sAs (gU 2 (gCn (gN 0) (gCn (gN 1) gNl))) (eIf (etB (eCall c_alike (gV (eMv 0) (gV (eMv 2) gNil0)))) (eTup (aCons (eMv 2) (aCons (eMv 1) aNil))) (eTup (aCons (eMv 0) (aCons (eOp gAdd (eMv 1) (eC (.int 1))) aNil))))) sNx))) (sSeq (sRet (eMv 0)) sNx)))
noncomputable def B_told_at (c_told_at : Fn) : SV := (sSeq (sIf (etB (eOpS (gIn true) (eMv 1) (sqL 0))) (sSeq (sRet (eTup aNil)) sNx) sNx) (sSeq (sAs (gU 2 (gCn (gN 2) (gCn (gN 3) gNl))) (eIxN 0 (eMv 1))) (sSeq (sRet (eTup (aCons (eCall c_told_at (gV (eMv 0) (gV (eOp gAdd (eMv 1) (eC (.str [60]))) gNil0))) (aCons (eMv 2) (aCons (eMv 3) (aCons (eCall c_told_at (gV (eMv 0) (gV (eOp gAdd (eMv 1) (eC (.str [62]))) gNil0))) aNil)))))) sNx)))
noncomputable def B_undoubled : SV := (sSeq (sRet (eM1 gJoin (eC (.str [])) (sqO (oLc (itEn (eMv 0)) (gU 2 (gCn (gN 1) (gCn (gN 2) gNl))) (tOr' (etB (eOp gEq (eMv 1) (eC (.int 0)))) (etB (eOp gNe (eIxN 0 (eOp gSub (eMv 1) (eC (.int 1)))) (eMv 2)))) (eMv 2) [1, 2])))) sNx)
noncomputable def B_ways_to : SV := (sSeq (sOw 3 (oLst (aCons (eFz (oLc (itR1 (eIxN 0 (eC (.int 0)))) (gN 6) etT (e1 gInt (sqV (eOp gEq (eMv 6) (eMv 1)))) [6])) aNil))) (sSeq (sFor (itR1 (eMv 2)) (gN 4) (sSeq (sAs (gN 5) (eIxN 3 (eNeg (eC (.int 1))))) (sSeq (sEx (eApp 3 (eFz (oLc (itR1 (eIxN 0 (eC (.int 0)))) (gN 6) etT (e1 gSum (sqO (oLc (itV (eIxN 0 (eC (.int 1)))) (gU 2 (gCn (gN 7) (gCn (gN 8) gNl))) etT (eIxN 5 (eIxN 8 (eMv 6))) [7, 8]))) [6])))) sNx))) (sSeq (sRetL 3) sNx)))
noncomputable def B_without : SV := (sSeq (sRet (eM1 gJoin (eC (.str [])) (sqO (oLc (itV (eMv 0)) (gN 2) (etB (eOp gNe (eMv 2) (eMv 1))) (eMv 2) [2])))) sNx)
noncomputable def B_yes_or_no : SV := (sSeq (sRet (eIf (etB (eMv 0)) (eC (.str [121, 101, 115])) (eC (.str [110, 111])))) sNx)
end DG

end
section
set_option Elab.async false
set_option linter.all false
set_option maxRecDepth 100000
set_option maxHeartbeats 1000000
/-! S1: what the defs of plans.py compute. -/
namespace DG
open PySem PySem.Spec PyProof.Rows L2 RZ DD FM
/-! ### promises in short -/
def fnS (g : List Nat → Option D) : Fn := fun as => match as with
  | [.v (.str w)] => (g w).map fun d => (.v d, [])
  | _ => none
def fnSS (g : List Nat → List Nat → Option D) : Fn := fun as => match as with
  | [.v (.str w), .v (.str u)] => (g w u).map fun d => (.v d, [])
  | _ => none
def fnSSS (g : List Nat → List Nat → List Nat → Option D) : Fn := fun as => match as with
  | [.v (.str w), .v (.str u), .v (.str t)] => (g w u t).map fun d => (.v d, [])
  | _ => none
theorem le_S {g : List Nat → Option D} {F : Fn} (h : ∀ w d, g w = some d → F [.v (.str w)] = some (.v d, [])) : Le (fnS g) F := by
  intro as r e
  unfold fnS at e
  split at e
  · obtain ⟨d, h1, h2⟩ := Option.map_eq_some_iff.mp e
    subst h2
    exact h _ _ h1
  · cases e
theorem le_SS {g : List Nat → List Nat → Option D} {F : Fn} (h : ∀ w u d, g w u = some d → F [.v (.str w), .v (.str u)] = some (.v d, [])) : Le (fnSS g) F := by
  intro as r e
  unfold fnSS at e
  split at e
  · obtain ⟨d, h1, h2⟩ := Option.map_eq_some_iff.mp e
    subst h2
    exact h _ _ _ h1
  · cases e
theorem le_SSS {g : List Nat → List Nat → List Nat → Option D} {F : Fn} (h : ∀ w u t d, g w u t = some d → F [.v (.str w), .v (.str u), .v (.str t)] = some (.v d, [])) : Le (fnSSS g) F := by
  intro as r e
  unfold fnSSS at e
  split at e
  · obtain ⟨d, h1, h2⟩ := Option.map_eq_some_iff.mp e
    subst h2
    exact h _ _ _ _ h1
  · cases e
@[simp] theorem fnS_at {g : List Nat → Option D} {w : List Nat} : fnS g [.v (.str w)] = (g w).map fun d => (.v d, []) := rfl
@[simp] theorem fnSS_at {g : List Nat → List Nat → Option D} {w u : List Nat} : fnSS g [.v (.str w), .v (.str u)] = (g w u).map fun d => (.v d, []) := rfl
@[simp] theorem fnSSS_at {g : List Nat → List Nat → List Nat → Option D} {w u t : List Nat} : fnSSS g [.v (.str w), .v (.str u), .v (.str t)] = (g w u t).map fun d => (.v d, []) := rfl

/-! ### news -/
def nw (acc : List Nat) : List Nat → List Nat
  | [] => acc
  | c :: r => nw (if c ∈ acc then acc else acc ++ [c]) r
def nws (w : List Nat) : List Nat := nw [] w
theorem nw_len : ∀ (w acc : List Nat), (nw acc w).length ≤ acc.length + w.length
  | [], acc => Nat.le_refl _
  | c :: r, acc => by
    have := nw_len r (if c ∈ acc then acc else acc ++ [c])
    unfold nw
    split at this <;> simp_all <;> omega
theorem nw_app : ∀ (w acc : List Nat) (c : Nat), nw acc (w ++ [c]) = if c ∈ nw acc w then nw acc w else nw acc w ++ [c]
  | [], acc, c => rfl
  | b :: r, acc, c => nw_app r _ c
theorem mem_nw (x : Nat) : ∀ (w acc : List Nat), x ∈ nw acc w ↔ x ∈ acc ∨ x ∈ w
  | [], acc => by simp [nw]
  | c :: r, acc => by
    unfold nw
    rw [mem_nw x r]
    by_cases h : c ∈ acc
    · rw [if_pos h, List.mem_cons]
      constructor
      · rintro (z | z)
        · exact .inl z
        · exact .inr (.inr z)
      · rintro (z | rfl | z)
        · exact .inl z
        · exact .inl h
        · exact .inr z
    · rw [if_neg h, List.mem_append, List.mem_singleton, List.mem_cons, or_assoc]
theorem q_snoc (v : List Nat) (c : Nat) : q (v ++ [c]).reverse = if c ∈ v then q v.reverse else (v.reverse, c) := by
  rw [List.reverse_append, List.reverse_singleton]
  show (if c ∈ v.reverse then q v.reverse else (v.reverse, c)) = _
  by_cases h : c ∈ v
  · rw [if_pos h, if_pos (List.mem_reverse.mpr h)]
  · rw [if_neg h, if_neg fun z => h (List.mem_reverse.mp z)]
theorem nws_last : ∀ (k : Nat) {w : List Nat}, w.length ≤ k → w ≠ [] → ∃ x, nws w = x ++ [pl w]
  | 0, w, h, hw => absurd (List.eq_nil_of_length_eq_zero (by omega)) hw
  | k + 1, w, h, hw => by
    obtain ⟨v, c, rfl⟩ : ∃ v c, w = v ++ [c] := ⟨w.dropLast, w.getLast hw, (List.dropLast_concat_getLast hw).symm⟩
    have e : nws (v ++ [c]) = if c ∈ nws v then nws v else nws v ++ [c] := nw_app v [] c
    have m : c ∈ nws v ↔ c ∈ v := by unfold nws; rw [mem_nw]; simp
    have qs := q_snoc v c
    by_cases hc : c ∈ v
    · rw [if_pos hc] at qs
      rw [e, if_pos (m.mpr hc)]
      have hv : v ≠ [] := by rintro rfl; cases hc
      obtain ⟨x, hx⟩ := nws_last k (w := v) (by simp at h; omega) hv
      refine ⟨x, ?_⟩
      rw [hx]
      unfold pl sl
      rw [qs]
    · rw [if_neg hc] at qs
      rw [e, if_neg fun z => hc (m.mp z)]
      refine ⟨nws v, ?_⟩
      unfold pl sl
      rw [qs]
theorem nws_ne {w : List Nat} (h : w ≠ []) : nws w ≠ [] := by
  obtain ⟨x, hx⟩ := nws_last _ (Nat.le_refl _) h
  rw [hx]; simp
def g_news (w : List Nat) : Option D := if w.length ≤ 100000 then some (.str (nws w)) else none
noncomputable def G_news : Fn := fnS g_news
theorem news_loop : ∀ (ds acc : List Nat) (s : Slot) (w : List Nat), (∀ c, s ≠ .par c) → acc.length + ds.length ≤ 100000 → ∃ s', (∀ c, s' ≠ .par c) ∧
    forD (gN 2) (sSeq (sIf (etB (eOpS (gIn true) (eMv 2) (sqL 1))) (sSeq (sAug gIadd 1 (eMv 2)) sNx) sNx) sNx) (ds.map fun c => .str [c]) [.val (.str w), .val (.str acc), s] = some (.nx [.val (.str w), .val (.str (nw acc ds)), s'])
  | [], acc, s, w, hs, hz => ⟨s, hs, rfl⟩
  | c :: r, acc, s, w, hs, hz => by
    have hp : canPut [.val (.str w), .val (.str acc), s] 2 = true := by
      cases s with
      | par c => exact absurd rfl (hs c)
      | _ => rfl
    obtain ⟨s', h1, h2⟩ := news_loop r (if c ∈ acc then acc else acc ++ [c]) (.val (.str [c])) w (fun _ z => nomatch z) (by simp at hz; split <;> (try simp) <;> omega)
    refine ⟨s', h1, ?_⟩
    show forD _ _ ((.str [c]) :: r.map fun c => .str [c]) _ = _
    unfold forD
    rw [show nw acc (c :: r) = nw (if c ∈ acc then acc else acc ++ [c]) r from rfl, ← h2]
    have hp' : gN 2 (.str [c]) [.val (.str w), .val (.str acc), s] = some [.val (.str w), .val (.str acc), .val (.str [c])] := by
      unfold gN; rw [if_pos hp]; rfl
    rw [hp', Option.bind_some]
    by_cases hc : c ∈ acc
    · simp [hc]
    · simp at hz
      have : acc.length + 1 ≤ 16777216 := by omega
      simp [hc, this]
theorem le_news : Le G_news (fnD 3 1 B_news) := le_S fun w d h => by
  unfold g_news at h
  split at h
  · rename_i hl
    cases h
    obtain ⟨s', h1, h2⟩ := news_loop w [] .emp w (fun _ z => nomatch z) (by simpa using hl)
    simp [fnD, B_news, startE, h2, parIx, csAt, nws]
  · cases h

/-! ### gones -/
def g_gones (w : List Nat) : Option D := if w.length ≤ 100000 then some (.str (nws w.reverse).reverse) else none
noncomputable def G_gones : Fn := fnS g_gones
theorem le_gones : Le G_gones (fnD 1 1 (B_gones G_news)) := le_S fun w d h => by
  unfold g_gones at h
  split at h
  · rename_i hl
    cases h
    simp [fnD, B_gones, startE, parIx, csAt, G_news, g_news, hl]
  · cases h
noncomputable def G_check_some : Fn := fnS fun w => if w ≠ [] then some .non else none
theorem le_check_some : Le G_check_some (fnD 1 1 B_check_some) := le_S fun w d h => by
  split at h
  · rename_i hl
    cases h
    simp [fnD, B_check_some, startE, parIx, csAt, hl]
  · cases h

/-! ### last_new, first_gone -/
theorem pf_split {w : List Nat} (h : w ≠ []) : ∃ y, w = pf w ++ pl w :: y := by
  obtain ⟨x, h1, _, _⟩ := q_spec (rev_ne h)
  refine ⟨x.reverse, ?_⟩
  have := congrArg List.reverse h1
  rw [List.reverse_reverse] at this
  conv => lhs; rw [this]
  unfold pf pl
  simp
theorem sf_split {w : List Nat} (h : w ≠ []) : ∃ x, w = x ++ sl w :: sf w := by
  obtain ⟨x, h1, _, _⟩ := q_spec h
  exact ⟨x, h1⟩
theorem fst1_mid {x y : List Nat} {c : Nat} (h : c ∉ x) : fst1 c (x ++ c :: y) = some x.length := by
  rw [fst1_some]
  refine ⟨?_, fun j hj => ?_⟩
  · rw [List.getElem?_append_right (Nat.le_refl _), Nat.sub_self]; rfl
  · rw [List.getElem?_append_left hj]
    intro z
    exact h (List.mem_of_getElem? z)
theorem fst1_pf {w : List Nat} (h : w ≠ []) : fst1 (pl w) w = some (pf w).length := by
  obtain ⟨y, hy⟩ := pf_split h
  exact (congrArg (fst1 (pl w)) hy).trans (fst1_mid (pl_notin h))
theorem lst1_mid {x y : List Nat} {c : Nat} (h : c ∉ y) : lst1 c (x ++ c :: y) = some x.length := by
  rw [lst1_some]
  refine ⟨?_, fun j hj => ?_⟩
  · rw [List.getElem?_append_right (Nat.le_refl _), Nat.sub_self]; rfl
  · rw [List.getElem?_append_right (by omega)]
    obtain ⟨m, hm⟩ : ∃ m, j - x.length = m + 1 := ⟨j - x.length - 1, by omega⟩
    rw [hm, List.getElem?_cons_succ]
    intro z
    exact h (List.mem_of_getElem? z)
theorem lst1_sf {w : List Nat} (h : w ≠ []) : ∃ i, lst1 (sl w) w = some i ∧ w.drop (i + 1) = sf w := by
  obtain ⟨x, hx⟩ := sf_split h
  refine ⟨x.length, (congrArg (lst1 (sl w)) hx).trans (lst1_mid (sl_notin h)), (congrArg (List.drop (x.length + 1)) hx).trans ?_⟩
  rw [List.drop_append, List.drop_of_length_le (by omega)]
  simp
theorem cut_to {α : Type} (w : List α) (i : Nat) (h : i ≤ w.length) : cutL w none (some (i : Int)) = w.take i := by
  unfold cutL
  rw [HT.sIx_none, HT.sIx_nat]
  simp [Nat.min_eq_left h]
theorem cut_from {α : Type} (w : List α) (i : Nat) : cutL w (some (i : Int)) none = w.drop i := by
  unfold cutL
  rw [HT.sIx_none, HT.sIx_nat]
  by_cases h : i ≤ w.length
  · rw [Nat.min_eq_left h]
    rw [List.take_of_length_le (by simp)]
  · rw [Nat.min_eq_right (by omega), List.drop_of_length_le (Nat.le_refl _), List.drop_of_length_le (by omega)]
    simp
def g_last_new (w : List Nat) : Option D := if w ≠ [] ∧ w.length ≤ 100000 then some (.tup [.str (pf w), .str [pl w]]) else none
noncomputable def G_last_new : Fn := fnS g_last_new
theorem nws_at {w : List Nat} (h : w ≠ []) : gIxD (.str (nws w)) (.int (-1)) = some (.str [pl w]) := by
  obtain ⟨x, hx⟩ := nws_last _ (Nat.le_refl _) h
  show (atI (nws w) (-1)).map _ = _
  rw [hx, atI_last]; rfl
theorem le_last_new : Le G_last_new (fnD 2 1 (B_last_new G_check_some G_news)) := le_S fun w d h => by
  unfold g_last_new at h
  split at h
  · rename_i hl
    cases h
    obtain ⟨y, hy⟩ := pf_split hl.1
    have hle : (pf w).length ≤ w.length := Nat.le_of_lt (pf_lt hl.1)
    have e : cutL w none (some ((pf w).length : Int)) = pf w := by
      rw [cut_to w _ hle]
      exact (congrArg (List.take (pf w).length) hy).trans (List.take_left ..)
    simp [fnD, B_last_new, startE, parIx, csAt, G_check_some, G_news, g_news, hl.1, hl.2, nws_at hl.1, fst1_pf hl.1, e]
  · cases h
def g_first_gone (w : List Nat) : Option D := if w ≠ [] ∧ w.length ≤ 100000 then some (.tup [.str [sl w], .str (sf w)]) else none
noncomputable def G_first_gone : Fn := fnS g_first_gone
theorem le_first_gone : Le G_first_gone (fnD 2 1 (B_first_gone G_check_some G_gones)) := le_S fun w d h => by
  unfold g_first_gone at h
  split at h
  · rename_i hl
    cases h
    obtain ⟨i, h1, h2⟩ := lst1_sf hl.1
    obtain ⟨x, hx⟩ := nws_last _ (Nat.le_refl _) (rev_ne hl.1)
    have e0 : pl w.reverse = sl w := by unfold pl; rw [List.reverse_reverse]
    have e1 : gIxD (.str (nws w.reverse).reverse) (.int 0) = some (.str [sl w]) := by
      show (atI (nws w.reverse).reverse 0).map _ = _
      rw [hx, e0]
      simp [atI, ixN]
    have e2 : gAdd (.int (i : Int)) (.int 1) = some (.int ((i : Int) + 1)) := rfl
    have e3 : cutL w (some ((i : Int) + 1)) none = sf w := (cut_from w (i + 1)).trans h2
    simp [fnD, B_first_gone, startE, parIx, csAt, G_check_some, G_gones, g_gones, hl.1, hl.2, e1, h1, e2, e3]
  · cases h
noncomputable def G_backward : Fn := fnS fun w => some (.str w.reverse)
theorem le_backward : Le G_backward (fnD 1 1 B_backward) := le_S fun w d h => by
  cases h
  simp [fnD, B_backward, startE, parIx, csAt]
end DG

end
section
set_option Elab.async false
set_option linter.all false
set_option maxRecDepth 100000
set_option maxHeartbeats 1000000
/-! S2: what the defs of forms.py compute. -/
namespace DG
open PySem PySem.Spec PyProof.Rows L2 RZ DD FM
open Classical

/-! ### forms as data -/
def toD : Fm → D
  | .e => .tup []
  | .n l a b r => .tup [toD l, .str [a], .str [b], toD r]
def ofD : D → Option Fm
  | .tup [] => some .e
  | .tup [l, .str [a], .str [b], r] => (ofD l).bind fun f => (ofD r).map fun g => .n f a b g
  | _ => none
theorem ofD_toD : ∀ f : Fm, ofD (toD f) = some f
  | .e => rfl
  | .n l a b r => by
    show ofD (.tup [toD l, .str [a], .str [b], toD r]) = _
    unfold ofD
    rw [ofD_toD l, ofD_toD r]; rfl
theorem toD_ofD : ∀ {d : D} {f : Fm}, ofD d = some f → d = toD f := by
  intro d
  induction d using ofD.induct with
  | case1 => intro f h; unfold ofD at h; cases h; rfl
  | case2 l a b r ih1 ih2 =>
    intro f h
    unfold ofD at h
    obtain ⟨f1, h1, h⟩ := Option.bind_eq_some_iff.mp h
    obtain ⟨f2, h2, h⟩ := Option.map_eq_some_iff.mp h
    cases h
    rw [ih1 h1, ih2 h2]; rfl
  | case3 d h1 h2 =>
    intro f h
    unfold ofD at h
    split at h
    · exact absurd rfl h1
    · exact absurd rfl (h2 _ _ _ _)
    · cases h
theorem toD_inj {f g : Fm} (h : toD f = toD g) : f = g := by
  have := congrArg ofD h
  rw [ofD_toD, ofD_toD] at this
  exact Option.some.inj this
noncomputable def fnF (P : Fm → Prop) (g : Fm → D) : Fn := fun as => match as with
  | [.v d] => (ofD d).bind fun f => if P f then some (.v (g f), []) else none
  | _ => none
noncomputable def fnFF (P : Fm → Fm → Prop) (g : Fm → Fm → D) : Fn := fun as => match as with
  | [.v d, .v e] => (ofD d).bind fun f => (ofD e).bind fun h => if P f h then some (.v (g f h), []) else none
  | _ => none
theorem le_F {P : Fm → Prop} {g : Fm → D} {F : Fn} (h : ∀ f, P f → F [.v (toD f)] = some (.v (g f), [])) : Le (fnF P g) F := by
  intro as r e
  unfold fnF at e
  split at e
  · obtain ⟨f, h1, h2⟩ := Option.bind_eq_some_iff.mp e
    split at h2
    · rename_i hp
      cases h2
      rw [toD_ofD h1]
      exact h f hp
    · cases h2
  · cases e
theorem le_FF {P : Fm → Fm → Prop} {g : Fm → Fm → D} {F : Fn} (h : ∀ f f', P f f' → F [.v (toD f), .v (toD f')] = some (.v (g f f'), [])) : Le (fnFF P g) F := by
  intro as r e
  unfold fnFF at e
  split at e
  · obtain ⟨f, h1, h2⟩ := Option.bind_eq_some_iff.mp e
    obtain ⟨f', h3, h4⟩ := Option.bind_eq_some_iff.mp h2
    split at h4
    · rename_i hp
      cases h4
      rw [toD_ofD h1, toD_ofD h3]
      exact h f f' hp
    · cases h4
  · cases e
theorem fnF_at {P : Fm → Prop} {g : Fm → D} {f : Fm} (h : P f) : fnF P g [.v (toD f)] = some (.v (g f), []) := by
  show (ofD (toD f)).bind _ = _
  rw [ofD_toD, Option.bind_some, if_pos h]
theorem fnFF_at {P : Fm → Fm → Prop} {g : Fm → Fm → D} {f f' : Fm} (h : P f f') : fnFF P g [.v (toD f), .v (toD f')] = some (.v (g f f'), []) := by
  show (ofD (toD f)).bind _ = _
  rw [ofD_toD, Option.bind_some, ofD_toD, Option.bind_some, if_pos h]
/-- forms may be compared -/
def okC (l : List Nat) : Bool := l.all (· < 0x110000)
def okF : Fm → Bool
  | .e => true
  | .n l a b r => okF l && (decide (a < 0x110000) && (decide (b < 0x110000) && okF r))
theorem okD_toD : ∀ f : Fm, okD (toD f) = okF f
  | .e => rfl
  | .n l a b r => by
    show (okD (toD l) && (okD (.str [a]) && (okD (.str [b]) && (okD (toD r) && true)))) = _
    rw [okD_toD l, okD_toD r]
    show (okF l && (([a]).all (· < 0x110000) && (([b]).all (· < 0x110000) && (okF r && true)))) = _
    simp [okF]
theorem depD_toD : ∀ f : Fm, depD (toD f) ≤ dep f + 1
  | .e => Nat.le_refl _
  | .n l a b r => by
    show max (depD (toD l)) (max 0 (max 0 (max (depD (toD r)) 0))) + 1 ≤ max (dep l) (dep r) + 1 + 1
    have h1 := depD_toD l
    have h2 := depD_toD r
    omega
theorem shD_toD {f : Fm} (h : okF f = true) (hd : dep f ≤ 60) : shD (toD f) = true := by
  unfold shD
  rw [okD_toD, h, Bool.true_and]
  exact decide_eq_true (by have := depD_toD f; omega)
theorem eqD_tup (xs ys : List D) : eqD (.tup xs) (.tup ys) = PyData.eqvAll (toPyA xs) (toPyA ys) := rfl
theorem eqD_str (a b : List Nat) : eqD (.str a) (.str b) = decide (a = b) := by
  show (sOf a == sOf b) = _
  by_cases e : a = b
  · subst e; simp
  · rw [decide_eq_false e]
    exact beq_eq_false_iff_ne.mpr fun z => e (sOf_inj z)
theorem eqA_cons (x y : D) (xs ys : List D) : PyData.eqvAll (toPyA (x :: xs)) (toPyA (y :: ys)) = (eqD x y && PyData.eqvAll (toPyA xs) (toPyA ys)) := rfl
theorem eqD_toD : ∀ f g : Fm, eqD (toD f) (toD g) = decide (f = g)
  | .e, .e => by rw [decide_eq_true rfl]; rfl
  | .e, .n _ _ _ _ => by rw [decide_eq_false (fun z => nomatch z)]; rfl
  | .n _ _ _ _, .e => by rw [decide_eq_false (fun z => nomatch z)]; rfl
  | .n l a b r, .n l' a' b' r' => by
    show eqD (.tup [toD l, .str [a], .str [b], toD r]) (.tup [toD l', .str [a'], .str [b'], toD r']) = _
    rw [eqD_tup, eqA_cons, eqA_cons, eqA_cons, eqA_cons, eqD_toD l l', eqD_toD r r', eqD_str, eqD_str]
    show (decide (l = l') && (decide ([a] = [a']) && (decide ([b] = [b']) && (decide (r = r') && true)))) = _
    rw [Bool.eq_iff_iff]
    simp
theorem gEq_form {f g : Fm} (hf : okF f = true) (hg : okF g = true) (df : dep f ≤ 60) (dg : dep g ≤ 60) : gEq (toD f) (toD g) = some (.bl (decide (f = g))) := by
  have h1 := shD_toD hf df
  have h2 := shD_toD hg dg
  cases f with
  | e =>
    show (if shD (.tup []) = true ∧ shD (toD g) = true then some (D.bl (eqD (.tup []) (toD g))) else none) = _
    rw [if_pos ⟨h1, h2⟩]
    exact congrArg (fun b => some (D.bl b)) (eqD_toD .e g)
  | n l a b r =>
    show (if shD (toD (.n l a b r)) = true ∧ shD (toD g) = true then some (D.bl (eqD (toD (.n l a b r)) (toD g))) else none) = _
    rw [if_pos ⟨h1, h2⟩, eqD_toD]
theorem okF_form : ∀ (k : Nat) {w : List Nat}, w.length ≤ k → (∀ c ∈ w, c < 0x110000) → okF (form w) = true
  | 0, w, h, _ => by
    have : w = [] := List.eq_nil_of_length_eq_zero (by omega)
    subst this; rw [form_nil]; rfl
  | k + 1, w, h, hc => by
    by_cases hw : w = []
    · subst hw; rw [form_nil]; rfl
    rw [form_eq hw]
    have h1 := pf_lt hw
    have h2 := sf_lt hw
    show (okF (form (pf w)) && (decide (pl w < 0x110000) && (decide (sl w < 0x110000) && okF (form (sf w))))) = true
    rw [okF_form k (by omega) fun c z => hc c ((mem_p hw).mpr (.inr z)), okF_form k (by omega) fun c z => hc c ((mem_q hw).mpr (.inr z)), decide_eq_true (hc _ ((mem_p hw).mpr (.inl rfl))), decide_eq_true (hc _ ((mem_q hw).mpr (.inl rfl)))]
    rfl

theorem gIn_m {neg : Bool} {x : D} {kvs : List (Key × D)} : gIn neg x (.m kvs) = (DD.keyOf x).map fun k => .bl (if neg then !(valD kvs k).isSome else (valD kvs k).isSome) := by
  cases x with
  | str l =>
    cases l with
    | nil => rfl
    | cons a r => cases r <;> rfl
  | _ => rfl
/-! ### form_by, form_of -/
def Good (kv : List (Key × D)) : Prop := ∀ p ∈ kv, ∃ w, p.1 = .inr (sOf w) ∧ p.2 = toD (form w)
def mm : Nat → List Nat → List (Key × D) → List (Key × D)
  | 0, _, kv => kv
  | m + 1, w, kv => if w = [] then kv else if (valD kv (.inr (sOf w))).isSome = true then kv else putD (mm m (sf w) (mm m (pf w) kv)) (.inr (sOf w)) (toD (form w))
theorem putD_len (kv : List (Key × D)) (k : Key) (d : D) : (putD kv k d).length ≤ kv.length + 1 := by
  unfold putD
  split
  · rw [List.length_map]; omega
  · rw [List.length_append]; exact Nat.le_refl _
theorem mm_len : ∀ (m : Nat) (w : List Nat) (kv : List (Key × D)), (mm m w kv).length + 1 ≤ kv.length + 2 ^ m
  | 0, _, kv => Nat.le_refl _
  | m + 1, w, kv => by
    unfold mm
    have hp : 1 ≤ 2 ^ (m + 1) := Nat.one_le_two_pow
    split
    · omega
    · split
      · omega
      · have h1 := putD_len (mm m (sf w) (mm m (pf w) kv)) (.inr (sOf w)) (toD (form w))
        have h2 := mm_len m (sf w) (mm m (pf w) kv)
        have h3 := mm_len m (pf w) kv
        rw [Nat.pow_succ]
        omega
theorem putD_good {kv : List (Key × D)} (h : Good kv) (w : List Nat) : Good (putD kv (.inr (sOf w)) (toD (form w))) := by
  unfold putD
  split
  · intro p hp
    obtain ⟨p0, h1, h2⟩ := List.mem_map.mp hp
    split at h2
    · rename_i e
      subst h2
      exact ⟨w, e, rfl⟩
    · subst h2; exact h _ h1
  · intro p hp
    rcases List.mem_append.mp hp with z | z
    · exact h p z
    · rw [List.mem_singleton] at z; subst z; exact ⟨w, rfl, rfl⟩
theorem mm_good : ∀ (m : Nat) (w : List Nat) (kv : List (Key × D)), Good kv → Good (mm m w kv)
  | 0, _, kv, h => h
  | m + 1, w, kv, h => by
    unfold mm
    split
    · exact h
    · split
      · exact h
      · exact putD_good (mm_good m _ _ (mm_good m _ _ h)) w
theorem valD_good {kv : List (Key × D)} (h : Good kv) {w : List Nat} {d : D} (e : valD kv (.inr (sOf w)) = some d) : d = toD (form w) := by
  obtain ⟨p, h1, h2⟩ := Option.map_eq_some_iff.mp e
  have m := List.mem_of_find?_eq_some h1
  have k := List.find?_some h1
  obtain ⟨w', e1, e2⟩ := h p m
  have k : p.1 = .inr (sOf w) := of_decide_eq_true k
  rw [e1] at k
  have : w' = w := sOf_inj (Sum.inr.inj k)
  subst this
  rw [← h2, e2]
theorem valD_put (kv : List (Key × D)) (k : Key) (d : D) : valD (putD kv k d) k = some d := by
  unfold putD
  by_cases h : (kv.any fun p => decide (p.1 = k)) = true
  · rw [if_pos h]
    induction kv with
    | nil => cases h
    | cons p r ih =>
      rw [List.map_cons]
      by_cases e : p.1 = k
      · rw [if_pos e]; exact valD_pos e
      · rw [if_neg e, valD_neg e]
        exact ih (by rw [List.any_cons, decide_eq_false e, Bool.false_or] at h; exact h)
  · rw [if_neg h]
    induction kv with
    | nil => exact valD_pos rfl
    | cons p r ih =>
      have h' : ¬ p.1 = k := fun e => h (by rw [List.any_cons, decide_eq_true e, Bool.true_or])
      rw [List.cons_append, valD_neg h']
      exact ih fun z => h (by rw [List.any_cons, z, Bool.or_true])
noncomputable def G_form_by (m : Nat) : Fn := fun as => match as with
  | [.v (.str w), .c (.m kv)] => if w.length ≤ 100000 ∧ dep (form w) ≤ m ∧ Good kv ∧ kv.length + 2 ^ (m + 1) ≤ 100000 then some (.v (toD (form w)), [.m (mm m w kv)]) else none
  | _ => none
theorem G_form_by_at {m : Nat} {w : List Nat} {kv : List (Key × D)} (h1 : w.length ≤ 100000) (h2 : dep (form w) ≤ m) (h3 : Good kv) (h4 : kv.length + 2 ^ (m + 1) ≤ 100000) : G_form_by m [.v (.str w), .c (.m kv)] = some (.v (toD (form w)), [.m (mm m w kv)]) := if_pos ⟨h1, h2, h3, h4⟩
theorem le_form_by (m : Nat) : Le (G_form_by (m + 1)) (fnD 6 2 (B_form_by (G_form_by m) G_first_gone G_last_new)) := by
  intro as r e
  unfold G_form_by at e
  split at e
  · rename_i w kv
    split at e
    · rename_i h
      obtain ⟨h1, h2, h3, h4⟩ := h
      cases e
      by_cases hw : w = []
      · subst hw
        simp [fnD, B_form_by, startE, parIx, csAt, form_nil, toD, mm]
      · have hm : mm (m + 1) w kv = if (valD kv (.inr (sOf w))).isSome = true then kv else putD (mm m (sf w) (mm m (pf w) kv)) (.inr (sOf w)) (toD (form w)) := by
          show (if w = [] then kv else _) = _
          rw [if_neg hw]
        have gin : gIn true (.str w) (.m kv) = some (.bl (!(valD kv (.inr (sOf w))).isSome)) := by
          rw [gIn_m]; rfl
        cases hv : valD kv (.inr (sOf w)) with
        | some d =>
          have hd := valD_good h3 hv
          subst hd
          rw [hm, hv]
          simp [fnD, B_form_by, startE, parIx, csAt, hw, gin, hv, gIxS, DD.keyOf]
        | none =>
          have d1 : dep (form (pf w)) ≤ m ∧ dep (form (sf w)) ≤ m := by
            rw [form_eq hw] at h2
            have : max (dep (form (pf w))) (dep (form (sf w))) + 1 ≤ m + 1 := h2
            omega
          have l1 := pf_lt hw
          have l2 := sf_lt hw
          have p2 : 2 ^ (m + 1 + 1) = 2 ^ (m + 1) + 2 ^ (m + 1) := by rw [Nat.pow_succ]; omega
          have p1 : 2 ^ (m + 1) = 2 ^ m + 2 ^ m := by rw [Nat.pow_succ]; omega
          have p0 : 1 ≤ 2 ^ m := Nat.one_le_two_pow
          have n1 := mm_len m (pf w) kv
          have n2 := mm_len m (sf w) (mm m (pf w) kv)
          have c1 := G_form_by_at (m := m) (w := pf w) (kv := kv) (by omega) d1.1 h3 (by omega)
          have c2 := G_form_by_at (m := m) (w := sf w) (kv := mm m (pf w) kv) (by omega) d1.2 (mm_good m _ _ h3) (by omega)
          have n3 : (mm m (sf w) (mm m (pf w) kv)).length ≤ 100000 := by omega
          have ev : valD (putD (mm m (sf w) (mm m (pf w) kv)) (.inr (sOf w)) (toD (form w))) (.inr (sOf w)) = some (toD (form w)) := valD_put _ _ _
          have ef : (D.tup [toD (form (pf w)), .str [pl w], .str [sl w], toD (form (sf w))]) = toD (form w) := by rw [form_eq hw]; rfl
          rw [hm, hv]
          simp [fnD, B_form_by, startE, parIx, csAt, hw, gin, hv, gIxS, DD.keyOf, G_last_new, g_last_new, G_first_gone, g_first_gone, h1, c1, c2, putC, n3, ef, ev]
    · cases e
  · cases e
/-- plans of a size that the code is shown at -/
def Small (w : List Nat) : Prop := w.length ≤ 100000 ∧ dep (form w) ≤ 12
noncomputable def G_form_of : Fn := fnS fun w => if Small w then some (toD (form w)) else none
theorem G_form_of_at {w : List Nat} (h : Small w) : G_form_of [.v (.str w)] = some (.v (toD (form w)), []) := by
  show ((if Small w then some (toD (form w)) else none).map _) = _
  rw [if_pos h]; rfl
theorem le_form_of : Le G_form_of (fnD 1 1 (B_form_of (G_form_by 12))) := le_S fun w d h => by
  split at h
  · rename_i hs
    cases h
    have c1 := G_form_by_at (m := 12) (w := w) (kv := []) hs.1 hs.2 (fun p h => nomatch h) (by decide)
    simp [fnD, B_form_of, startE, parIx, csAt, c1]
  · cases h
end DG

end
section
set_option Elab.async false
set_option linter.all false
set_option maxRecDepth 100000
set_option maxHeartbeats 1000000
/-! S3: what the defs of forms.py, sides.py compute. -/
namespace DG
open PySem PySem.Spec PyProof.Rows L2 RZ DD FM
open Classical
/-! ### plan_by, plan_of -/
noncomputable def G_plan_by (m : Nat) : Fn := fnF (fun f => dep f ≤ m ∧ dep f ≤ 14) fun f => .str (plan f)
theorem plan_nil {f : Fm} : plan f = [] ↔ f = .e := by
  cases f with
  | e => simp [plan]
  | n l a b r =>
    unfold plan
    split <;> simp
theorem toD_n (l : Fm) (a b : Nat) (r : Fm) : toD (.n l a b r) = .tup [toD l, .str [a], .str [b], toD r] := rfl
theorem atI0 {α : Type} (x : α) (r : List α) : atI (x :: r) 0 = some x := atI_nat (j := 0) rfl
theorem atI1 {α : Type} (x y : α) (r : List α) : atI (x :: y :: r) 1 = some y := atI_nat (j := 1) rfl
theorem atI2 {α : Type} (x y z : α) (r : List α) : atI (x :: y :: z :: r) 2 = some z := atI_nat (j := 2) rfl
theorem atI3 {α : Type} (x y z u : α) (r : List α) : atI (x :: y :: z :: u :: r) 3 = some u := atI_nat (j := 3) rfl
@[simp] theorem gIxS_t {xs : List D} {i : Int} : gIxS (.t xs) (.int i) = atI xs i := rfl
theorem plan_small {f : Fm} (h : dep f ≤ 14) : (plan f).length ≤ 32768 := by
  have h1 := plan_len f
  have h2 : 2 ^ (dep f + 1) ≤ 2 ^ 15 := Nat.pow_le_pow_right (by decide) (by omega)
  have h3 : (2 : Nat) ^ 15 = 32768 := by decide
  omega
theorem gAddS {a b : List Nat} (h : a.length + b.length ≤ 16777216) : gAdd (.str a) (.str b) = some (.str (a ++ b)) := by
  show (if a.length + b.length ≤ 16777216 then some (D.str (a ++ b)) else none) = _
  rw [if_pos h]
theorem le_plan_by (m : Nat) : Le (G_plan_by (m + 1)) (fnD 3 1 (B_plan_by (G_plan_by m))) := le_F fun f h => by
  cases f with
  | e => simp [fnD, B_plan_by, startE, parIx, csAt, toD, plan]
  | n l a b r =>
    have hd : max (dep l) (dep r) + 1 ≤ m + 1 ∧ max (dep l) (dep r) + 1 ≤ 14 := h
    have c1 : G_plan_by m [.v (toD l)] = some (.v (.str (plan l)), []) := fnF_at ⟨by omega, by omega⟩
    have c2 : G_plan_by m [.v (toD r)] = some (.v (.str (plan r)), []) := fnF_at ⟨by omega, by omega⟩
    have s1 := plan_small (f := l) (by omega)
    have s2 := plan_small (f := r) (by omega)
    have a1 : gAdd (.str (plan l)) (.str [a]) = some (.str (plan l ++ [a])) := gAddS (by simp; omega)
    have a2 : gAdd (.str (plan l ++ [a])) (.str [b]) = some (.str (plan l ++ [a, b])) := (gAddS (by simp; omega)).trans (by simp)
    have a3 : gAdd (.str (plan l ++ [a, b])) (.str (plan r)) = some (.str (plan l ++ a :: b :: plan r)) := (gAddS (by simp; omega)).trans (by simp)
    have hp : plan (.n l a b r) = if plan l ≠ [] then plan l ++ [a, b] ++ plan r else [a] := rfl
    by_cases hl : plan l = []
    · rw [hp, if_neg (by simpa using hl)]
      simp [fnD, B_plan_by, startE, parIx, csAt, toD_n, atI0, atI1, atI2, atI3, c1, c2, hl]
    · rw [hp, if_pos hl]
      simp [fnD, B_plan_by, startE, parIx, csAt, toD_n, atI0, atI1, atI2, atI3, c1, c2, hl, a1, a2, a3]
noncomputable def G_plan_of : Fn := fnF (fun f => dep f ≤ 14) fun f => .str (plan f)
theorem G_plan_of_at {f : Fm} (h : dep f ≤ 14) : G_plan_of [.v (toD f)] = some (.v (.str (plan f)), []) := fnF_at h
theorem le_plan_of : Le G_plan_of (fnD 1 1 (B_plan_of (G_plan_by 14))) := le_F fun f h => by
  have c1 : G_plan_by 14 [.v (toD f)] = some (.v (.str (plan f)), []) := fnF_at ⟨h, h⟩
  simp [fnD, B_plan_of, startE, parIx, csAt, c1]

/-! ### alike, product, .. -/
def Chr (w : List Nat) : Prop := ∀ c ∈ w, c < 0x110000
theorem gEq_w {u v : List Nat} (hu : Small u) (hv : Small v) (cu : Chr u) (cv : Chr v) : gEq (toD (form u)) (toD (form v)) = some (.bl (decide (form u = form v))) :=
  gEq_form (okF_form _ (Nat.le_refl _) cu) (okF_form _ (Nat.le_refl _) cv) (by have := hu.2; omega) (by have := hv.2; omega)
noncomputable def G_alike : Fn := fnSS fun u v => if Small u ∧ Small v ∧ Chr u ∧ Chr v then some (.bl (decide (form u = form v))) else none
theorem le_alike : Le G_alike (fnD 2 2 (B_alike G_form_of)) := le_SS fun u v d h => by
  split at h
  · rename_i hs
    obtain ⟨h1, h2, h3, h4⟩ := hs
    cases h
    simp [fnD, B_alike, startE, parIx, csAt, G_form_of_at h1, G_form_of_at h2, gEq_w h1 h2 h3 h4]
  · cases h
noncomputable def G_product : Fn := fnFF (fun f g => dep f ≤ 14 ∧ dep g ≤ 14 ∧ Small (plan f ++ plan g)) fun f g => toD (form (plan f ++ plan g))
theorem le_product : Le G_product (fnD 2 2 (B_product G_plan_of G_form_of)) := le_FF fun f g h => by
  obtain ⟨h1, h2, h3⟩ := h
  have s1 := plan_small h1
  have s2 := plan_small h2
  simp [fnD, B_product, startE, parIx, csAt, G_plan_of_at h1, G_plan_of_at h2, gAddS (show (plan f).length + (plan g).length ≤ 16777216 by omega), G_form_of_at h3]
noncomputable def G_form_back : Fn := fnF (fun f => dep f ≤ 14 ∧ Small (plan f).reverse) fun f => toD (form (plan f).reverse)
theorem le_form_back : Le G_form_back (fnD 1 1 (B_form_back G_plan_of G_form_of)) := le_F fun f h => by
  simp [fnD, B_form_back, startE, parIx, csAt, G_plan_of_at h.1, G_form_of_at h.2]
noncomputable def G_begins : Fn := fnSS fun w s => if Small (s ++ w) ∧ Small w ∧ Chr s ∧ Chr w then some (.bl (decide (form (s ++ w) = form w))) else none
theorem Chr.app {u v : List Nat} (h : Chr u) (h' : Chr v) : Chr (u ++ v) := fun c hc => (List.mem_append.mp hc).elim (h c) (h' c)
theorem small_add {u v : List Nat} (h : Small (u ++ v)) : gAdd (.str u) (.str v) = some (.str (u ++ v)) := gAddS (by have := h.1; simp at this; omega)
theorem le_begins : Le G_begins (fnD 2 2 (B_begins G_form_of)) := le_SS fun w s d h => by
  split at h
  · rename_i hs
    obtain ⟨h1, h2, h3, h4⟩ := hs
    cases h
    simp [fnD, B_begins, startE, parIx, csAt, small_add h1, G_form_of_at h1, G_form_of_at h2, gEq_w h1 h2 (h3.app h4) h4]
  · cases h
noncomputable def G_stops : Fn := fnSS fun w s => if Small (w ++ s) ∧ Small w ∧ Chr s ∧ Chr w then some (.bl (decide (form (w ++ s) = form w))) else none
theorem le_stops : Le G_stops (fnD 2 2 (B_stops G_form_of)) := le_SS fun w s d h => by
  split at h
  · rename_i hs
    obtain ⟨h1, h2, h3, h4⟩ := hs
    cases h
    simp [fnD, B_stops, startE, parIx, csAt, small_add h1, G_form_of_at h1, G_form_of_at h2, gEq_w h1 h2 (h4.app h3) h4]
  · cases h
noncomputable def G_holds : Fn := fnSSS fun w s t => if Small (s ++ w ++ t) ∧ Small w ∧ Chr s ∧ Chr w ∧ Chr t then some (.bl (decide (form (s ++ w ++ t) = form w))) else none
theorem le_holds : Le G_holds (fnD 3 3 (B_holds G_form_of)) := le_SSS fun w s t d h => by
  split at h
  · rename_i hs
    obtain ⟨h1, h2, h3, h4, h5⟩ := hs
    cases h
    have a1 : gAdd (.str s) (.str w) = some (.str (s ++ w)) := gAddS (by have := h1.1; simp at this; omega)
    have a2 := small_add h1
    have e := gEq_w h1 h2 ((h3.app h4).app h5) h4
    have f := G_form_of_at h1
    simp only [List.append_assoc] at a2 e f ⊢
    simp [fnD, B_holds, startE, parIx, csAt, a1, a2, f, G_form_of_at h2, e]
  · cases h
noncomputable def G_swallows : Fn := fnSS fun w x => if Small (w ++ x ++ w) ∧ Small w ∧ Chr x ∧ Chr w then some (.bl (decide (form (w ++ x ++ w) = form w))) else none
theorem le_swallows : Le G_swallows (fnD 2 2 (B_swallows G_form_of)) := le_SS fun w x d h => by
  split at h
  · rename_i hs
    obtain ⟨h1, h2, h3, h4⟩ := hs
    cases h
    have a1 : gAdd (.str w) (.str x) = some (.str (w ++ x)) := gAddS (by have := h1.1; simp at this; omega)
    have a2 := small_add h1
    have e := gEq_w h1 h2 ((h4.app h3).app h4) h4
    have f := G_form_of_at h1
    simp only [List.append_assoc] at a2 e f ⊢
    simp [fnD, B_swallows, startE, parIx, csAt, a1, a2, f, G_form_of_at h2, e]
  · cases h
end DG

end
section
set_option Elab.async false
set_option linter.all false
set_option maxRecDepth 100000
set_option maxHeartbeats 1000000
/-! S4: comprehensions over signs; without, form_without, check_names, renamed, form_renamed, letters_of. -/
namespace DG
open PySem PySem.Spec PyProof.Rows L2 RZ DD FM
open TL (joinL)
open Classical
/-- one clause, its own name at slot j, nothing else changed -/
theorem lc_one {j : Nat} {tt : ET} {elt : EV} {Lw : DD.Env} (hE : Lw[j]? = some .emp) (f : D → Bool) (F : D → D) : ∀ ds : List D, (∀ d ∈ ds, tt (Lw.set j (.val d)) = some (f d, Lw.set j (.val d))) → (∀ d ∈ ds, f d = true → elt (Lw.set j (.val d)) = some (F d, Lw.set j (.val d))) →
    lcD (gN j) tt elt [j] ds Lw = some ((ds.filter f).map F, Lw)
  | [], _, _ => rfl
  | d :: ds, ht, he => by
    have hj : j < Lw.length := (List.getElem?_eq_some_iff.mp hE).1
    have ih := lc_one hE f F ds (fun x hx => ht x (List.mem_cons_of_mem _ hx)) (fun x hx => he x (List.mem_cons_of_mem _ hx))
    have hg : gN j d Lw = some (Lw.set j (.val d)) := by
      unfold gN canPut
      rw [hE, if_pos rfl]
    have hw : wipeE (Lw.set j (.val d)) [j] = Lw := by
      show (Lw.set j (.val d)).set j .emp = Lw
      rw [List.set_set]
      refine List.ext_getElem? fun i => ?_
      by_cases e : j = i
      · subst e; rw [List.getElem?_set_self hj, hE]
      · rw [List.getElem?_set_ne e]
    unfold lcD
    rw [hg, Option.bind_some, ht d List.mem_cons_self, Option.bind_some]
    cases hf : f d with
    | false =>
      rw [if_neg (by simp), hw, ih, List.filter_cons_of_neg (by rw [hf]; decide)]
    | true =>
      show ((elt (Lw.set j (.val d))).bind fun q => (lcD (gN j) tt elt [j] ds (wipeE q.2 [j])).map fun r => (q.1 :: r.1, r.2)) = _
      rw [he d List.mem_cons_self hf, Option.bind_some, hw, ih, List.filter_cons_of_pos hf]; rfl
theorem lc_map {j : Nat} {elt : EV} {Lw : DD.Env} (hE : Lw[j]? = some .emp) (F : D → D) (ds : List D) (he : ∀ d ∈ ds, elt (Lw.set j (.val d)) = some (F d, Lw.set j (.val d))) : lcD (gN j) etT elt [j] ds Lw = some (ds.map F, Lw) := by
  have := lc_one (tt := etT) hE (fun _ => true) F ds (fun _ _ => rfl) (fun d hd _ => he d hd)
  rw [this]
  congr 2
  exact congrArg (List.map F) (List.filter_eq_self.mpr fun _ _ => rfl)
abbrev sgn (c : Nat) : D := .str [c]
def ofSg (f : Nat → Bool) : D → Bool
  | .str [c] => f c
  | _ => false
theorem filter_sgn (f : Nat → Bool) (w : List Nat) : (w.map sgn).filter (ofSg f) = (w.filter f).map sgn := by
  rw [List.filter_map]; rfl
/-- .. over the signs of a text, themselves kept -/
theorem lc_sgn {j : Nat} {tt : ET} {Lw : DD.Env} (hE : Lw[j]? = some .emp) (f : Nat → Bool) (w : List Nat) (ht : ∀ c ∈ w, tt (Lw.set j (.val (sgn c))) = some (f c, Lw.set j (.val (sgn c)))) : lcD (gN j) tt (eMv j) [j] (w.map sgn) Lw = some ((w.filter f).map sgn, Lw) := by
  have hj : j < Lw.length := (List.getElem?_eq_some_iff.mp hE).1
  have := lc_one (tt := tt) (elt := eMv j) hE (ofSg f) id (w.map sgn) (fun d hd => by
    obtain ⟨c, hc, rfl⟩ := List.mem_map.mp hd
    exact ht c hc) (fun d hd _ => by
    obtain ⟨c, hc, rfl⟩ := List.mem_map.mp hd
    unfold eMv
    rw [List.getElem?_set_self hj]; rfl)
  rw [this, List.map_id, filter_sgn]
theorem joinL_nil : ∀ ls : List (List Nat), joinL [] ls = ls.flatten
  | [] => rfl
  | [p] => by simp [joinL]
  | p :: q :: r => by
    show p ++ ([] ++ joinL [] (q :: r)) = _
    rw [joinL_nil (q :: r)]; rfl
theorem flat_chars : ∀ w : List Nat, (w.map fun c => [c]).flatten = w
  | [] => rfl
  | c :: r => by rw [List.map_cons, List.flatten_cons, flat_chars r]; rfl
theorem sum_ones : ∀ w : List Nat, ((w.map fun c => [c]).map (·.length)).sum = w.length
  | [] => rfl
  | c :: r => by rw [List.map_cons, List.map_cons, List.sum_cons, sum_ones r]; show 1 + r.length = r.length + 1; omega
theorem join_list {ls : List (List Nat)} (h : (ls.map (·.length)).sum ≤ 16777216) : gJoin [] (.l (ls.map D.str)) = some (.str ls.flatten) := by
  show (strsOf (ls.map D.str)).bind _ = _
  rw [strsOf_map, Option.bind_some, if_pos (by simpa using h), joinL_nil]
theorem join_chars {w : List Nat} (h : w.length ≤ 16777216) : gJoin [] (.l (w.map sgn)) = some (.str w) := by
  have e : w.map sgn = (w.map fun c => [c]).map D.str := by rw [List.map_map]; rfl
  rw [e, join_list (by rw [sum_ones]; exact h), flat_chars]
/-! ### without -/
noncomputable def G_without : Fn := fnSS fun w l => match l with
  | [c] => if w.length ≤ 100000 then some (.str (w.filter fun x => !decide (x = c))) else none
  | _ => none
theorem le_without : Le G_without (fnD 3 2 B_without) := le_SS fun w l d h => by
  split at h
  · rename_i c
    split at h
    · rename_i hl
      cases h
      have key := lc_sgn (j := 2) (tt := etB (eOp gNe (eMv 2) (eMv 1))) (Lw := [.val (.str w), .val (.str [c]), .emp]) rfl (fun x => !decide (x = c)) w (fun x _ => by simp)
      have hj : gJoin [] (.l ((w.filter fun x => !decide (x = c)).map sgn)) = some (.str (w.filter fun x => !decide (x = c))) := join_chars (Nat.le_trans (List.length_filter_le _ _) (by omega))
      simp [fnD, B_without, startE, parIx, csAt, noPar, key, hl, hj]
    · cases h
  · cases h
/-! ### form_without -/
noncomputable def fnFS (P : Fm → List Nat → Prop) (g : Fm → List Nat → D) : Fn := fun as => match as with
  | [.v d, .v (.str w)] => (ofD d).bind fun f => if P f w then some (.v (g f w), []) else none
  | _ => none
theorem le_FS {P : Fm → List Nat → Prop} {g : Fm → List Nat → D} {F : Fn} (h : ∀ f w, P f w → F [.v (toD f), .v (.str w)] = some (.v (g f w), [])) : Le (fnFS P g) F := by
  intro as r e
  unfold fnFS at e
  split at e
  · obtain ⟨f, h1, h2⟩ := Option.bind_eq_some_iff.mp e
    split at h2
    · rename_i hp
      cases h2
      rw [toD_ofD h1]
      exact h f _ hp
    · cases h2
  · cases e
theorem fnFS_at {P : Fm → List Nat → Prop} {g : Fm → List Nat → D} {f : Fm} {w : List Nat} (h : P f w) : fnFS P g [.v (toD f), .v (.str w)] = some (.v (g f w), []) := by
  show (ofD (toD f)).bind _ = _
  rw [ofD_toD, Option.bind_some, if_pos h]
noncomputable def fnFSS (P : Fm → List Nat → List Nat → Prop) (g : Fm → List Nat → List Nat → D) : Fn := fun as => match as with
  | [.v d, .v (.str w), .v (.str u)] => (ofD d).bind fun f => if P f w u then some (.v (g f w u), []) else none
  | _ => none
theorem le_FSS {P : Fm → List Nat → List Nat → Prop} {g : Fm → List Nat → List Nat → D} {F : Fn} (h : ∀ f w u, P f w u → F [.v (toD f), .v (.str w), .v (.str u)] = some (.v (g f w u), [])) : Le (fnFSS P g) F := by
  intro as r e
  unfold fnFSS at e
  split at e
  · obtain ⟨f, h1, h2⟩ := Option.bind_eq_some_iff.mp e
    split at h2
    · rename_i hp
      cases h2
      rw [toD_ofD h1]
      exact h f _ _ hp
    · cases h2
  · cases e
theorem fnFSS_at {P : Fm → List Nat → List Nat → Prop} {g : Fm → List Nat → List Nat → D} {f : Fm} {w u : List Nat} (h : P f w u) : fnFSS P g [.v (toD f), .v (.str w), .v (.str u)] = some (.v (g f w u), []) := by
  show (ofD (toD f)).bind _ = _
  rw [ofD_toD, Option.bind_some, if_pos h]
/-- the letters that are not among ls -/
def del (ls w : List Nat) : List Nat := w.filter fun x => !decide (x ∈ ls)
noncomputable def G_form_without : Fn := fnFS (fun f ls => dep f ≤ 14 ∧ Small (del ls (plan f))) fun f ls => toD (form (del ls (plan f)))
theorem le_form_without : Le G_form_without (fnD 3 2 (B_form_without G_plan_of G_form_of)) := le_FS fun f ls h => by
  have s1 := plan_small h.1
  have key := lc_sgn (j := 2) (tt := etB (eOpS (gIn true) (eMv 2) (sqL 1))) (Lw := [.val (toD f), .val (.str ls), .emp]) rfl (fun x => !decide (x ∈ ls)) (plan f) (fun x _ => by simp)
  have hj : gJoin [] (.l ((del ls (plan f)).map sgn)) = some (.str (del ls (plan f))) := join_chars (Nat.le_trans (List.length_filter_le _ _) (by omega))
  have hl : (plan f).length ≤ 100000 := by omega
  have c1 := G_form_of_at h.2
  unfold del at hj c1 ⊢
  simp [fnD, B_form_without, startE, parIx, csAt, noPar, G_plan_of_at h.1, key, hl, hj, c1]

/-! ### renamed -/
def Names (b a : List Nat) : Prop := b.length = a.length ∧ b.length ≤ 1000 ∧ (dedup (chars b)).length = b.length ∧ (dedup (chars a)).length = a.length
theorem check_loop {b a w : List Nat} : ∀ (ds : List Nat) (s : Slot), (∀ c, s ≠ .par c) → (∀ c ∈ ds, c ∈ b) → ∃ s',
    forD (gN 3) (sSeq (sIf (etB (eOpS (gIn true) (eMv 3) (sqL 1))) (sSeq sNo sNx) sNx) sNx) (ds.map sgn) [.val (.str w), .val (.str b), .val (.str a), s] = some (.nx [.val (.str w), .val (.str b), .val (.str a), s'])
  | [], s, hs, _ => ⟨s, rfl⟩
  | c :: r, s, hs, hc => by
    obtain ⟨s', h⟩ := check_loop (b := b) (a := a) (w := w) r (.val (sgn c)) (fun _ z => nomatch z) fun x hx => hc x (List.mem_cons_of_mem _ hx)
    refine ⟨s', ?_⟩
    have hp : gN 3 (sgn c) [.val (.str w), .val (.str b), .val (.str a), s] = some [.val (.str w), .val (.str b), .val (.str a), .val (sgn c)] := by
      cases s with
      | par c => exact absurd rfl (hs c)
      | _ => rfl
    rw [List.map_cons]
    unfold forD
    rw [hp, Option.bind_some, ← h]
    simp [hc c List.mem_cons_self]
noncomputable def G_check_names : Fn := fnSSS fun w b a => if Names b a ∧ ∀ c ∈ w, c ∈ b then some .non else none
theorem le_check_names : Le G_check_names (fnD 4 3 B_check_names) := le_SSS fun w b a d h => by
  split at h
  · rename_i hs
    cases h
    obtain ⟨⟨h1, h2, h3, h4⟩, h5⟩ := hs
    obtain ⟨s', hf⟩ := check_loop (b := b) (a := a) (w := w) w .emp (fun _ z => nomatch z) h5
    have e1 : a.length ≤ 1000 := by omega
    simp [fnD, B_check_names, startE, parIx, csAt, h1, h2, h3, h4, e1, hf]
  · cases h
def rnm (b a : List Nat) (c : Nat) : Nat := match fst1 c b with
  | some i => a.getD i 0
  | none => 0
noncomputable def G_renamed : Fn := fnSSS fun w b a => if Names b a ∧ (∀ c ∈ w, c ∈ b) ∧ w.length ≤ 100000 then some (.str (w.map (rnm b a))) else none
theorem le_renamed : Le G_renamed (fnD 4 3 (B_renamed G_check_names)) := le_SSS fun w b a d h => by
  split at h
  · rename_i hs
    cases h
    obtain ⟨h1, h2, h3⟩ := hs
    have c1 : G_check_names [.v (.str w), .v (.str b), .v (.str a)] = some (.v .non, []) := by
      show ((if Names b a ∧ ∀ c ∈ w, c ∈ b then some D.non else none).map _) = _
      rw [if_pos ⟨h1, h2⟩]; rfl
    have key := lc_map (j := 3) (elt := eIxN 2 (eM1 gFind (eMv 1) (sqL 3))) (Lw := [.val (.str w), .val (.str b), .val (.str a), .emp]) rfl (fun d => match d with | .str [x] => sgn (rnm b a x) | _ => .non) (w.map sgn) (fun d hd => by
      obtain ⟨x, hx, rfl⟩ := List.mem_map.mp hd
      have hb := h2 x hx
      cases hi : fst1 x b with
      | none => exact absurd hb (fst1_none.mp hi)
      | some i =>
        have hib : i < b.length := (List.getElem?_eq_some_iff.mp (fst1_some.mp hi).1).1
        have hia : i < a.length := by rw [← h1.1]; exact hib
        have e1 : gIxS (.s a) (.int (i : Int)) = some (sgn (rnm b a x)) := by
          show (atI a (i : Int)).map _ = _
          rw [atI_nat (List.getElem?_eq_getElem hia)]
          unfold rnm
          rw [hi]
          show some (D.str [a[i]]) = some (D.str [a.getD i 0])
          rw [List.getD_eq_getElem?_getD, List.getElem?_eq_getElem hia]; rfl
        simp [hi, e1])
    have e2 : (w.map sgn).map (fun d => match d with | .str [x] => sgn (rnm b a x) | _ => .non) = (w.map (rnm b a)).map sgn := by
      rw [List.map_map, List.map_map]; rfl
    rw [e2] at key
    have hj : gJoin [] (.l ((w.map (rnm b a)).map sgn)) = some (.str (w.map (rnm b a))) := join_chars (by rw [List.length_map]; omega)
    simp only [List.map_map] at key hj
    simp [fnD, B_renamed, startE, parIx, csAt, noPar, c1, key, h3, hj]
  · cases h
noncomputable def G_form_renamed : Fn := fnFSS (fun f b a => dep f ≤ 14 ∧ Names b a ∧ (∀ c ∈ plan f, c ∈ b) ∧ Small ((plan f).map (rnm b a))) fun f b a => toD (form ((plan f).map (rnm b a)))
theorem le_form_renamed : Le G_form_renamed (fnD 3 3 (B_form_renamed G_plan_of G_renamed G_form_of)) := le_FSS fun f b a h => by
  obtain ⟨h1, h2, h3, h4⟩ := h
  have s1 := plan_small h1
  have c1 : G_renamed [.v (.str (plan f)), .v (.str b), .v (.str a)] = some (.v (.str ((plan f).map (rnm b a))), []) := by
    show ((if Names b a ∧ (∀ c ∈ plan f, c ∈ b) ∧ (plan f).length ≤ 100000 then some (D.str ((plan f).map (rnm b a))) else none).map _) = _
    rw [if_pos ⟨h2, h3, by omega⟩]; rfl
  simp [fnD, B_form_renamed, startE, parIx, csAt, G_plan_of_at h1, c1, G_form_of_at h4]
end DG

end
section
set_option Elab.async false
set_option linter.all false
set_option maxRecDepth 100000
set_option maxHeartbeats 1000000
/-! S5: letters_of, tupled, letters_by, letters_in, product_of, the books. -/
namespace DG
open PySem PySem.Spec PyProof.Rows L2 RZ DD FM
open TL (joinL)
open Classical
/-! ### letters_of -/
def ltS (w : List Nat) : List Nat := (sortS (dedup (chars w))).flatten
theorem addK_nodup {ks : List (List Nat)} (h : ks.Nodup) (k : List Nat) : (addK ks k).Nodup := by
  unfold addK
  split
  · exact h
  · rename_i hk
    rw [List.nodup_append]
    refine ⟨h, by simp, fun a ha b hb => ?_⟩
    rw [List.mem_singleton] at hb
    subst hb
    rintro rfl
    exact hk ha
theorem foldl_nodup : ∀ (ks acc : List (List Nat)), acc.Nodup → (ks.foldl addK acc).Nodup
  | [], _, h => h
  | k :: r, acc, h => foldl_nodup r _ (addK_nodup h k)
theorem dedup_nodup (ks : List (List Nat)) : (dedup ks).Nodup := foldl_nodup ks [] List.nodup_nil
theorem mem_chars {w : List Nat} {l : List Nat} : l ∈ chars w ↔ ∃ c ∈ w, l = [c] := by
  unfold chars
  rw [List.mem_map]
  constructor
  · rintro ⟨c, h, e⟩; exact ⟨c, h, e.symm⟩
  · rintro ⟨c, h, e⟩; exact ⟨c, h, e.symm⟩
theorem perm_of {u v : List Nat} (h : ∀ c, c ∈ u ↔ c ∈ v) : (dedup (chars u)).Perm (dedup (chars v)) := by
  rw [List.perm_ext_iff_of_nodup (dedup_nodup _) (dedup_nodup _)]
  intro l
  rw [mem_dedup, mem_dedup, mem_chars, mem_chars]
  constructor
  · rintro ⟨c, hc, e⟩; exact ⟨c, (h c).mp hc, e⟩
  · rintro ⟨c, hc, e⟩; exact ⟨c, (h c).mpr hc, e⟩
theorem ltS_of {u v : List Nat} (h : ∀ c, c ∈ u ↔ c ∈ v) : ltS u = ltS v := by
  unfold ltS
  rw [rise_eq (sortS_rise _) (sortS_rise _) (((sortS_perm _).trans (perm_of h)).trans (sortS_perm _).symm)]
theorem flat_ones : ∀ {ls : List (List Nat)}, (∀ l ∈ ls, ∃ c, l = [c]) → ls = ls.flatten.map fun c => [c]
  | [], _ => rfl
  | l :: r, h => by
    obtain ⟨c, rfl⟩ := h l List.mem_cons_self
    have := flat_ones (ls := r) fun x hx => h x (List.mem_cons_of_mem _ hx)
    rw [List.flatten_cons, List.map_append, ← this]; rfl
theorem sort_ones (w : List Nat) : ∀ l ∈ sortS (dedup (chars w)), ∃ c, l = [c] := fun l hl => by
  rw [mem_sortS, mem_dedup, mem_chars] at hl
  obtain ⟨c, _, e⟩ := hl
  exact ⟨c, e⟩
theorem mem_ltS {w : List Nat} {c : Nat} : c ∈ ltS w ↔ c ∈ w := by
  unfold ltS
  rw [List.mem_flatten]
  constructor
  · rintro ⟨l, hl, hc⟩
    rw [mem_sortS, mem_dedup, mem_chars] at hl
    obtain ⟨x, hx, rfl⟩ := hl
    rw [List.mem_singleton] at hc
    rw [hc]; exact hx
  · intro hc
    exact ⟨[c], by rw [mem_sortS, mem_dedup, mem_chars]; exact ⟨c, hc, rfl⟩, List.mem_singleton.mpr rfl⟩
theorem foldl_len : ∀ (ks acc : List (List Nat)), (ks.foldl addK acc).length ≤ acc.length + ks.length
  | [], _ => Nat.le_refl _
  | k :: r, acc => by
    have h1 := foldl_len r (addK acc k)
    have h2 : (addK acc k).length ≤ acc.length + 1 := by
      unfold addK
      split
      · omega
      · rw [List.length_append]; exact Nat.le_refl _
    rw [List.foldl_cons, List.length_cons]
    omega
theorem dedup_len (w : List Nat) : (dedup (chars w)).length ≤ w.length := by
  have := foldl_len (chars w) []
  unfold chars at this
  rw [List.length_map] at this
  simpa [dedup, chars] using this
theorem ltS_len (w : List Nat) : (ltS w).length ≤ w.length := by
  have h1 := flat_ones (sort_ones w)
  have h2 := congrArg List.length h1
  rw [List.length_map] at h2
  have h3 := (sortS_perm (dedup (chars w))).length_eq
  have h4 := dedup_len w
  show (sortS (dedup (chars w))).flatten.length ≤ _
  omega
theorem join_sorted {w : List Nat} (h : w.length ≤ 1000) : gJoin [] (.l ((sortS (dedup (chars w))).map D.str)) = some (.str (ltS w)) := by
  refine (join_list ?_).trans rfl
  rw [flat_ones (sort_ones w), sum_ones]
  have := ltS_len w
  show (ltS w).length ≤ _
  omega
noncomputable def G_letters_of : Fn := fnS fun w => if w.length ≤ 1000 then some (.str (ltS w)) else none
theorem G_letters_of_at {w : List Nat} (h : w.length ≤ 1000) : G_letters_of [.v (.str w)] = some (.v (.str (ltS w)), []) := by
  show ((if w.length ≤ 1000 then some (D.str (ltS w)) else none).map _) = _
  rw [if_pos h]; rfl
theorem le_letters_of : Le G_letters_of (fnD 1 1 B_letters_of) := le_S fun w d h => by
  split at h
  · rename_i hl
    cases h
    simp [fnD, B_letters_of, startE, parIx, csAt, hl, join_sorted hl]
  · cases h

/-! ### tupled -/
noncomputable def G_tupled (m : Nat) : Fn := fun as => match as with
  | [.v (.str w)] => some (.v (.str w), [])
  | [.v d] => (ofD d).bind fun f => if dep f < m then some (.v (toD f), []) else none
  | _ => none
theorem G_tupled_at {m : Nat} {f : Fm} (h : dep f < m) : G_tupled m [.v (toD f)] = some (.v (toD f), []) := by
  cases f with
  | e =>
    have e : ofD (.tup []) = some .e := ofD_toD .e
    simp [G_tupled, toD, e, h]
  | n l a b r =>
    show (ofD (toD (.n l a b r))).bind _ = _
    rw [ofD_toD, Option.bind_some, if_pos h]
theorem le_tupled (m : Nat) : Le (G_tupled (m + 1)) (fnD 2 1 (B_tupled (G_tupled m))) := by
  intro as r e
  unfold G_tupled at e
  split at e
  · rename_i w
    cases e
    simp [fnD, B_tupled, startE, parIx, csAt, isiS]
  · rename_i d _
    obtain ⟨f, h1, h2⟩ := Option.bind_eq_some_iff.mp e
    split at h2
    · rename_i hp
      cases h2
      rw [toD_ofD h1]
      cases f with
      | e => simp [fnD, B_tupled, startE, parIx, csAt, isiS, toD, noPar, DD.gTup]
      | n l a b r =>
        have hd : max (dep l) (dep r) + 1 < m + 1 := hp
        have c1 := G_tupled_at (m := m) (f := l) (by omega)
        have c2 := G_tupled_at (m := m) (f := r) (by omega)
        have c3 : ∀ x, G_tupled m [.v (.str x)] = some (.v (.str x), []) := fun x => rfl
        have key := lc_map (j := 1) (elt := eCall (G_tupled m) (gV (eMv 1) gNil0)) (Lw := [.val (toD (.n l a b r)), .emp]) rfl id [toD l, .str [a], .str [b], toD r] (fun d hd => by
          have : d = toD l ∨ d = .str [a] ∨ d = .str [b] ∨ d = toD r := by simpa using hd
          rcases this with rfl | rfl | rfl | rfl
          · simp [c1]
          · simp [c3]
          · simp [c3]
          · simp [c2])
        rw [List.map_id] at key
        rw [toD_n] at key ⊢
        simp [fnD, B_tupled, startE, parIx, csAt, isiS, noPar, DD.gTup, key]
    · cases h2
  · cases e

/-! ### letters_by, letters_in -/
/-- forms of plans of the letters a .. h -/
def Fok (f : Fm) : Prop := ∃ w, f = form w ∧ ∀ c ∈ w, 97 ≤ c ∧ c ≤ 104
theorem Fok.n {l : Fm} {a b : Nat} {r : Fm} (h : Fok (.n l a b r)) : Fok l ∧ Fok r ∧ (97 ≤ a ∧ a ≤ 104) ∧ (97 ≤ b ∧ b ≤ 104) ∧ a ∉ plan l ∧ b ∉ plan r ∧ (∀ c, (c ∈ plan l ∨ c = a) ↔ c ∈ plan (.n l a b r)) ∧ ∀ c, (c ∈ plan r ∨ c = b) ↔ c ∈ plan (.n l a b r) := by
  obtain ⟨w, e, hw⟩ := h
  have ne : w ≠ [] := by
    rintro rfl
    rw [form_nil] at e; cases e
  have e0 := e
  rw [form_eq ne] at e
  injection e with e1 e2 e3 e4
  subst e1 e2 e3 e4
  have mp : ∀ v c, c ∈ plan (form v) ↔ c ∈ v := fun v => mem_of_form (form_plan v)
  rw [e0]
  refine ⟨⟨pf w, rfl, fun c hc => hw c ((mem_p ne).mpr (.inr hc))⟩, ⟨sf w, rfl, fun c hc => hw c ((mem_q ne).mpr (.inr hc))⟩, hw _ ((mem_p ne).mpr (.inl rfl)), hw _ ((mem_q ne).mpr (.inl rfl)), fun z => pl_notin ne ((mp _ _).mp z), fun z => sl_notin ne ((mp _ _).mp z), fun c => ?_, fun c => ?_⟩
  · rw [mp, mp, mem_p ne]; exact or_comm
  · rw [mp, mp, mem_q ne]; exact or_comm
noncomputable def G_letters_by (m : Nat) : Fn := fnF (fun f => dep f < m ∧ dep f ≤ 8 ∧ Fok f) fun f => .str (ltS (plan f))
theorem G_letters_by_at {m : Nat} {f : Fm} (h1 : dep f < m) (h2 : dep f ≤ 8) (h3 : Fok f) : G_letters_by m [.v (toD f)] = some (.v (.str (ltS (plan f))), []) := fnF_at ⟨h1, h2, h3⟩
theorem Fok.ok {f : Fm} (h : Fok f) : okF f = true := by
  obtain ⟨w, rfl, hw⟩ := h
  exact okF_form _ (Nat.le_refl _) fun c hc => by have := hw c hc; omega
theorem plan_le {f : Fm} {k : Nat} (h : dep f ≤ k) : (plan f).length + 2 ≤ 2 ^ (k + 1) := Nat.le_trans (plan_len f) (Nat.pow_le_pow_right (by decide) (by omega))
theorem alph {x : Nat} (h : 97 ≤ x ∧ x ≤ 104) : x ∈ [97, 98, 99, 100, 101, 102, 103, 104] := by
  have : x = 97 ∨ x = 98 ∨ x = 99 ∨ x = 100 ∨ x = 101 ∨ x = 102 ∨ x = 103 ∨ x = 104 := by omega
  simpa using this
theorem le_letters_by (m : Nat) : Le (G_letters_by (m + 1)) (fnD 5 1 (B_letters_by (G_letters_by m) G_letters_of)) := le_F fun f h => by
  obtain ⟨h1, h2, h3⟩ := h
  have i0 : gIn true (.int 0) (.t [.int 0, .int 4]) = some (.bl false) := rfl
  have i4 : gIn true (.int 4) (.t [.int 0, .int 4]) = some (.bl false) := rfl
  cases f with
  | e =>
    have g : gEq (.tup []) (.tup []) = some (.bl true) := by
      have := gEq_form (f := .e) (g := .e) rfl rfl (Nat.zero_le _) (Nat.zero_le _)
      rw [decide_eq_true rfl] at this
      exact this
    have l0 : ltS [] = [] := rfl
    simp [fnD, B_letters_by, B_letters_by_0, B_letters_by_1, startE, parIx, csAt, isiS, toD, i0, g, plan, l0]
  | n l a b r =>
    obtain ⟨fl, fr, ha, hb, na, nb, ml, mr⟩ := h3.n
    have hd : max (dep l) (dep r) + 1 < m + 1 ∧ max (dep l) (dep r) + 1 ≤ 8 := ⟨h1, h2⟩
    have c1 := G_letters_by_at (m := m) (f := l) (by omega) (by omega) fl
    have c2 := G_letters_by_at (m := m) (f := r) (by omega) (by omega) fr
    have g : gEq (.tup [toD l, .str [a], .str [b], toD r]) (.tup []) = some (.bl false) := by
      have := gEq_form (f := .n l a b r) (g := .e) h3.ok rfl (by omega) (Nat.zero_le _)
      rw [decide_eq_false (fun z => nomatch z)] at this
      exact this
    have p1 : (plan l).length + 2 ≤ 2 ^ 9 := plan_le (k := 8) (by omega)
    have p2 : (plan r).length + 2 ≤ 2 ^ 9 := plan_le (k := 8) (by omega)
    have q1 := ltS_len (plan l)
    have q2 := ltS_len (plan r)
    have key := lc_map (j := 4) (elt := eAnd (eIsi ["str"] (eMv 4)) (eAnd (eOp gEq (e1 gLen (sqL 4)) (eC (.int 1))) (eOpS (gIn false) (eMv 4) (sqV (eC (.str [97, 98, 99, 100, 101, 102, 103, 104]))))))
      (Lw := [.val (.tup [toD l, .str [a], .str [b], toD r]), .emp, .emp, .emp, .emp]) rfl (fun _ => .bl true) [.str [a], .str [b]] (fun d hd => by
        have : d = .str [a] ∨ d = .str [b] := by simpa using hd
        rcases this with rfl | rfl
        · have := alph ha
          simp [isiS, -List.mem_cons, this]
        · have := alph hb
          simp [isiS, -List.mem_cons, this])
    have ga : DD.gAll (.l [.bl true, .bl true]) = some (.bl true) := rfl
    have ni : ∀ x, gIs (.str x) .non = some (.bl false) := fun x => rfl
    have na' : a ∉ ltS (plan l) := fun z => na (mem_ltS.mp z)
    have nb' : b ∉ ltS (plan r) := fun z => nb (mem_ltS.mp z)
    have a1 : gAdd (.str (ltS (plan l))) (.str [a]) = some (.str (ltS (plan l) ++ [a])) := gAddS (by simp; omega)
    have a2 : gAdd (.str (ltS (plan r))) (.str [b]) = some (.str (ltS (plan r) ++ [b])) := gAddS (by simp; omega)
    have l1 : (ltS (plan l) ++ [a]).length ≤ 1000 := by simp; omega
    have l2 : (ltS (plan r) ++ [b]).length ≤ 1000 := by simp; omega
    have e1 : ltS (ltS (plan l) ++ [a]) = ltS (plan (.n l a b r)) := ltS_of fun c => by
      rw [List.mem_append, mem_ltS, List.mem_singleton]; exact ml c
    have e2 : ltS (ltS (plan r) ++ [b]) = ltS (plan (.n l a b r)) := ltS_of fun c => by
      rw [List.mem_append, mem_ltS, List.mem_singleton]; exact mr c
    have d1 := G_letters_of_at l1
    have d2 := G_letters_of_at l2
    rw [e1] at d1
    rw [e2] at d2
    generalize ltS (plan (.n l a b r)) = R at d1 d2 ⊢
    simp [fnD, B_letters_by, B_letters_by_0, B_letters_by_1, B_letters_by_2, B_letters_by_3, B_letters_by_4, B_letters_by_5, B_letters_by_6, startE, parIx, csAt, isiS, toD_n, i4, g, key, noPar, atI0, atI1, atI2, atI3, ga, c1, c2, ni, na', nb', a1, a2, d1, d2]
noncomputable def G_letters_in : Fn := fnF (fun f => dep f ≤ 8 ∧ Fok f) fun f => .str (ltS (plan f))
theorem le_letters_in : Le G_letters_in (fnD 1 1 (B_letters_in (G_tupled 10) (G_letters_by 10))) := le_F fun f h => by
  have c1 := G_tupled_at (m := 10) (f := f) (by have := h.1; omega)
  have c2 := G_letters_by_at (m := 10) (f := f) (by have := h.1; omega) h.1 h.2
  simp [fnD, B_letters_in, startE, parIx, csAt, c1, c2]
end DG

end
section
set_option Elab.async false
set_option linter.all false
set_option maxRecDepth 100000
set_option maxHeartbeats 1000000
/-! S6: product_of, the books. -/
namespace DG
open PySem PySem.Spec PyProof.Rows L2 RZ DD FM
open TL (joinL)
open Classical
/-- a promise by an encoding of the arguments -/
noncomputable def fnE {α : Type} (enc : α → List DD.Arg) (P : α → Prop) (res : α → Ret × List Cont) : Fn := fun as => if h : ∃ x, enc x = as ∧ P x then some (res h.choose) else none
theorem le_E {α : Type} {enc : α → List DD.Arg} {P : α → Prop} {res : α → Ret × List Cont} {F : Fn} (h : ∀ x, P x → F (enc x) = some (res x)) : Le (fnE enc P res) F := by
  intro as r e
  unfold fnE at e
  split at e
  · rename_i hx
    cases e
    obtain ⟨h1, h2⟩ := hx.choose_spec
    have := h _ h2
    rw [h1] at this
    exact this
  · cases e
theorem fnE_at {α : Type} {enc : α → List DD.Arg} {P : α → Prop} {res : α → Ret × List Cont} {x : α} (inj : ∀ x y, enc x = enc y → x = y) (h : P x) : fnE enc P res (enc x) = some (res x) := by
  have hx : ∃ y, enc y = enc x ∧ P y := ⟨x, rfl, h⟩
  show (if h : ∃ y, enc y = enc x ∧ P y then some (res h.choose) else none) = _
  rw [dif_pos hx, inj _ _ hx.choose_spec.1]

/-! ### plans of the letters a .. h -/
def Okw (w : List Nat) : Prop := ∀ c ∈ w, 97 ≤ c ∧ c ≤ 104
theorem Okw.app {u v : List Nat} (h : Okw u) (h' : Okw v) : Okw (u ++ v) := fun c hc => (List.mem_append.mp hc).elim (h c) (h' c)
theorem Okw.rev {u : List Nat} (h : Okw u) : Okw u.reverse := fun c hc => h c (List.mem_reverse.mp hc)
theorem Okw.filt {u : List Nat} (h : Okw u) (f : Nat → Bool) : Okw (u.filter f) := fun c hc => h c (List.mem_filter.mp hc).1
theorem Okw.dep {w : List Nat} (h : Okw w) : dep (form w) ≤ 8 := dep_le [97, 98, 99, 100, 101, 102, 103, 104] fun c hc => alph (h c hc)
theorem Okw.small {w : List Nat} (h : Okw w) (hl : w.length ≤ 100000) : Small w := ⟨hl, by have := h.dep; omega⟩
theorem Okw.chr {w : List Nat} (h : Okw w) : Chr w := fun c hc => by have := h c hc; omega
theorem Okw.fok {w : List Nat} (h : Okw w) : Fok (form w) := ⟨w, rfl, h⟩
theorem Fok.dep {f : Fm} (h : Fok f) : dep f ≤ 8 := by
  obtain ⟨w, rfl, hw⟩ := h
  exact Okw.dep hw
theorem mem_plan {w : List Nat} {c : Nat} : c ∈ plan (form w) ↔ c ∈ w := mem_of_form (form_plan w) c
theorem Fok.okw {f : Fm} (h : Fok f) : Okw (plan f) := by
  obtain ⟨w, rfl, hw⟩ := h
  exact fun c hc => hw c (mem_plan.mp hc)
theorem Fok.len {f : Fm} (h : Fok f) : (plan f).length ≤ 510 := by
  have := plan_le h.dep
  have e : (2 : Nat) ^ (8 + 1) = 512 := by decide
  omega
/-- the product -/
def prodF (f g : Fm) : Fm := form (plan f ++ plan g)
theorem Fok.prod {f g : Fm} (h : Fok f) (h' : Fok g) : Fok (prodF f g) := (h.okw.app h'.okw).fok
theorem G_product_at {f g : Fm} (h : Fok f) (h' : Fok g) : G_product [.v (toD f), .v (toD g)] = some (.v (toD (prodF f g)), []) := by
  have h1 := h.dep
  have h2 := h'.dep
  refine fnFF_at ⟨by omega, by omega, (h.okw.app h'.okw).small ?_⟩
  have := h.len
  have := h'.len
  rw [List.length_append]; omega
theorem prod_form (u v : List Nat) : prodF (form u) (form v) = form (u ++ v) := form_cong (form_plan u) (form_plan v)

/-! ### product_of -/
noncomputable def G_product_of : Fn := fnE (fun fs : List Fm => [.v (.tup (fs.map toD))]) (fun fs => ∀ f ∈ fs, Fok f) fun fs => (.v (toD (fs.foldl prodF .e)), [])
theorem Fok.e : Fok .e := ⟨[], form_nil.symm, fun c hc => nomatch hc⟩
theorem prod_loop {d0 : D} : ∀ (fs : List Fm) (acc : Fm) (s : Slot), (∀ c, s ≠ .par c) → Fok acc → (∀ f ∈ fs, Fok f) → ∃ s',
    forD (gN 2) (sSeq (sAs (gN 1) (eCall G_product (gV (eMv 1) (gV (eMv 2) gNil0)))) sNx) (fs.map toD) [.val d0, .val (toD acc), s] = some (.nx [.val d0, .val (toD (fs.foldl prodF acc)), s'])
  | [], acc, s, _, _, _ => ⟨s, rfl⟩
  | f :: r, acc, s, hs, ha, hf => by
    have h1 := hf f List.mem_cons_self
    obtain ⟨s', h⟩ := prod_loop (d0 := d0) r (prodF acc f) (.val (toD f)) (fun _ z => nomatch z) (ha.prod h1) fun x hx => hf x (List.mem_cons_of_mem _ hx)
    refine ⟨s', ?_⟩
    have hp : gN 2 (toD f) [.val d0, .val (toD acc), s] = some [.val d0, .val (toD acc), .val (toD f)] := by
      cases s with
      | par c => exact absurd rfl (hs c)
      | _ => rfl
    rw [List.map_cons, List.foldl_cons]
    unfold forD
    rw [hp, Option.bind_some, ← h]
    simp [G_product_at ha h1]
theorem le_product_of : Le G_product_of (fnD 3 1 (B_product_of G_product)) := le_E fun fs h => by
  obtain ⟨s', hl⟩ := prod_loop (d0 := .tup (fs.map toD)) fs .e .emp (fun _ z => nomatch z) Fok.e h
  rw [show toD .e = .tup [] from rfl] at hl
  simp [fnD, B_product_of, startE, parIx, csAt, hl]
theorem map_toD_inj {fs gs : List Fm} (h : fs.map toD = gs.map toD) : fs = gs := by
  induction fs generalizing gs with
  | nil =>
    cases gs with
    | nil => rfl
    | cons g r => cases h
  | cons f r ih =>
    cases gs with
    | nil => cases h
    | cons g s =>
      rw [List.map_cons, List.map_cons] at h
      injection h with h1 h2
      rw [toD_inj h1, ih h2]
theorem G_product_of_at {fs : List Fm} (h : ∀ f ∈ fs, Fok f) : G_product_of [.v (.tup (fs.map toD))] = some (.v (toD (fs.foldl prodF .e)), []) :=
  fnE_at (x := fs) (fun x y e => by injection e with e; injection e with e; injection e with e; exact map_toD_inj e) h
theorem foldl_forms : ∀ (ws : List (List Nat)) (u : List Nat), (ws.map form).foldl prodF (form u) = form (u ++ ws.flatten)
  | [], u => by simp
  | w :: r, u => by rw [List.map_cons, List.foldl_cons, prod_form, foldl_forms r, List.flatten_cons, List.append_assoc]

/-! ### books -/
inductive Pt where
  | t (w : List Nat)
  | i (k : Nat)
def ptD : Pt → D
  | .t w => .str w
  | .i k => .int (k : Int)
theorem ptD_inj {p r : Pt} (h : ptD p = ptD r) : p = r := by
  cases p <;> cases r <;> first
    | (injection h with h; rw [h]; done)
    | (cases h; done)
    | (injection h with h; rw [Int.ofNat.inj h])
def pcD (ps : List Pt) : D := .tup (ps.map ptD)
def bkD (b : List (List Pt)) : D := .tup (b.map pcD)
theorem map_inj {α β : Type} {f : α → β} (h : ∀ x y, f x = f y → x = y) : ∀ {xs ys : List α}, xs.map f = ys.map f → xs = ys
  | [], [], _ => rfl
  | [], y :: ys, e => by cases e
  | x :: xs, [], e => by cases e
  | x :: xs, y :: ys, e => by
    rw [List.map_cons, List.map_cons] at e
    injection e with e1 e2
    rw [h _ _ e1, map_inj h e2]
theorem pcD_inj {p r : List Pt} (h : pcD p = pcD r) : p = r := by
  injection h with h
  exact map_inj (fun _ _ => ptD_inj) h
theorem bkD_inj {p r : List (List Pt)} (h : bkD p = bkD r) : p = r := by
  injection h with h
  exact map_inj (fun _ _ => pcD_inj) h
/-- the form of a part, of a piece, of all pieces -/
def ptF (found : List Fm) : Pt → Fm
  | .t w => form w
  | .i k => found.getD k .e
def pcF (found : List Fm) (ps : List Pt) : Fm := ps.foldl (fun f p => prodF f (ptF found p)) .e
def bkF : List (List Pt) → List Fm → List Fm
  | [], found => found
  | p :: r, found => bkF r (found ++ [pcF found p])
def PtOk (n : Nat) : Pt → Prop
  | .t w => Okw w ∧ w.length ≤ 100000
  | .i k => k < n
def BkOk : List (List Pt) → Nat → Prop
  | [], _ => True
  | p :: r, n => (∀ x ∈ p, PtOk n x) ∧ BkOk r (n + 1)
theorem ptF_ok {found : List Fm} (hf : ∀ f ∈ found, Fok f) {p : Pt} (h : PtOk found.length p) : Fok (ptF found p) := by
  cases p with
  | t w => exact Okw.fok h.1
  | i k =>
    have hk : k < found.length := h
    show Fok (found.getD k .e)
    rw [List.getD_eq_getElem?_getD, List.getElem?_eq_getElem hk]
    exact hf _ (List.getElem_mem hk)
theorem G_form_of_ok {w : List Nat} (h : Okw w) (hl : w.length ≤ 100000) : G_form_of [.v (.str w)] = some (.v (toD (form w)), []) := G_form_of_at (h.small hl)
theorem pc_loop {d0 d1 : D} {found : List Fm} (hf : ∀ f ∈ found, Fok f) : ∀ (ps : List Pt) (acc : Fm) (s : Slot), (∀ c, s ≠ .par c) → Fok acc → (∀ x ∈ ps, PtOk found.length x) → ∃ s', (∀ c, s' ≠ .par c) ∧
    forD (gN 4) (sSeq (sAs (gN 3) (eCall G_product (gV (eMv 3) (gV (eIf (etB (eIsi ["str"] (eMv 4))) (eCall G_form_of (gV (eMv 4) gNil0)) (eIxN 1 (eMv 4))) gNil0)))) sNx) (ps.map ptD) [.val d0, .liv (.l (found.map toD)), .val d1, .val (toD acc), s]
      = some (.nx [.val d0, .liv (.l (found.map toD)), .val d1, .val (toD (ps.foldl (fun f p => prodF f (ptF found p)) acc)), s'])
  | [], acc, s, hs, _, _ => ⟨s, hs, rfl⟩
  | p :: r, acc, s, hs, ha, hp => by
    have h1 := hp p List.mem_cons_self
    have h2 := ptF_ok hf h1
    obtain ⟨s', hs', h⟩ := pc_loop (d0 := d0) (d1 := d1) hf r (prodF acc (ptF found p)) (.val (ptD p)) (fun _ z => nomatch z) (ha.prod h2) fun x hx => hp x (List.mem_cons_of_mem _ hx)
    refine ⟨s', hs', ?_⟩
    have hg : gN 4 (ptD p) [.val d0, .liv (.l (found.map toD)), .val d1, .val (toD acc), s] = some [.val d0, .liv (.l (found.map toD)), .val d1, .val (toD acc), .val (ptD p)] := by
      cases s with
      | par c => exact absurd rfl (hs c)
      | _ => rfl
    rw [List.map_cons, List.foldl_cons]
    unfold forD
    rw [hg, Option.bind_some, ← h]
    have c1 := G_product_at ha h2
    cases p with
    | t w =>
      have c2 := G_form_of_ok h1.1 h1.2
      simp [ptD, isiS, c2]
      rw [show G_product [.v (toD acc), .v (toD (form w))] = some (.v (toD (prodF acc (form w))), []) from c1]
      simp [ptF]
    | i k =>
      have hk : k < found.length := h1
      have e1 : gIxS (.l (found.map toD)) (.int (k : Int)) = some (toD (ptF found (.i k))) := by
        show atI (found.map toD) (k : Int) = _
        refine atI_nat ?_
        rw [List.getElem?_map, List.getElem?_eq_getElem hk]
        show some (toD found[k]) = some (toD (found.getD k .e))
        rw [List.getD_eq_getElem?_getD, List.getElem?_eq_getElem hk]; rfl
      simp [ptD, isiS, e1, c1]
theorem pcF_ok {found : List Fm} (hf : ∀ f ∈ found, Fok f) : ∀ (ps : List Pt) (acc : Fm), Fok acc → (∀ x ∈ ps, PtOk found.length x) → Fok (ps.foldl (fun f p => prodF f (ptF found p)) acc)
  | [], acc, ha, _ => ha
  | p :: r, acc, ha, hp => pcF_ok hf r _ (ha.prod (ptF_ok hf (hp p List.mem_cons_self))) fun x hx => hp x (List.mem_cons_of_mem _ hx)
theorem bk_loop {d0 : D} : ∀ (bk : List (List Pt)) (found : List Fm) (s2 s3 s4 : Slot), (∀ c, s2 ≠ .par c) → (∀ c, s3 ≠ .par c) → (∀ c, s4 ≠ .par c) → (∀ f ∈ found, Fok f) → BkOk bk found.length → found.length + bk.length ≤ 100000 → ∃ s2' s3' s4',
    forD (gN 2) (sSeq (sAs (gN 3) (eTup aNil)) (sSeq (sFor (itV (eMv 2)) (gN 4) (sSeq (sAs (gN 3) (eCall G_product (gV (eMv 3) (gV (eIf (etB (eIsi ["str"] (eMv 4))) (eCall G_form_of (gV (eMv 4) gNil0)) (eIxN 1 (eMv 4))) gNil0)))) sNx)) (sSeq (sEx (eApp 1 (eMv 3))) sNx)))
      (bk.map pcD) [.val d0, .liv (.l (found.map toD)), s2, s3, s4] = some (.nx [.val d0, .liv (.l ((bkF bk found).map toD)), s2', s3', s4'])
  | [], found, s2, s3, s4, _, _, _, _, _, _ => ⟨s2, s3, s4, rfl⟩
  | p :: r, found, s2, s3, s4, h2, h3, h4, hf, hb, hl => by
    obtain ⟨hp, hb⟩ := hb
    obtain ⟨s4', hs4, hin⟩ := pc_loop (d0 := d0) (d1 := pcD p) hf p .e s4 h4 Fok.e hp
    have hok := pcF_ok hf p .e Fok.e hp
    have hf' : ∀ f ∈ found ++ [pcF found p], Fok f := fun f hfm => by
      rcases List.mem_append.mp hfm with z | z
      · exact hf f z
      · rw [List.mem_singleton] at z; rw [z]; exact hok
    obtain ⟨t2, t3, t4, h⟩ := bk_loop (d0 := d0) r (found ++ [pcF found p]) (.val (pcD p)) (.val (toD (pcF found p))) s4' (fun _ z => nomatch z) (fun _ z => nomatch z) hs4 hf' (by rw [List.length_append]; exact hb) (by rw [List.length_append]; simp at hl ⊢; omega)
    refine ⟨t2, t3, t4, ?_⟩
    have hg : gN 2 (pcD p) [.val d0, .liv (.l (found.map toD)), s2, s3, s4] = some [.val d0, .liv (.l (found.map toD)), .val (pcD p), s3, s4] := by
      cases s2 with
      | par c => exact absurd rfl (h2 c)
      | _ => rfl
    have hc3 : canPut [.val d0, .liv (.l (found.map toD)), .val (pcD p), s3, s4] 3 = true := by
      cases s3 with
      | par c => exact absurd rfl (h3 c)
      | _ => rfl
    have hg3 : gN 3 (.tup []) [.val d0, .liv (.l (found.map toD)), .val (pcD p), s3, s4] = some [.val d0, .liv (.l (found.map toD)), .val (pcD p), .val (.tup []), s4] := by
      unfold gN; rw [if_pos hc3]; rfl
    have hz : found.length ≤ 100000 := by simp at hl; omega
    rw [List.map_cons]
    unfold forD
    rw [hg, Option.bind_some, show bkF (p :: r) found = bkF r (found ++ [pcF found p]) from rfl, ← h]
    rw [show toD .e = .tup [] from rfl] at hin
    rw [show (eTup aNil) = (fun L => eTup aNil L) from rfl]
    have hi : itemsD (pcD p) = some (p.map ptD) := rfl
    show (sSeq (sAs (gN 3) (eTup aNil)) _ _).bind _ = _
    simp only [x_sSeq, x_sAs, x_eTup, x_aNil, Option.bind_some, List.length_nil, Nat.zero_le, if_true, hg3, Option.map_some]
    simp [hi, hin, eApp, lsOf, hz, pcF]
noncomputable def G_forms_of : Fn := fnE (fun b : List (List Pt) => [.v (bkD b)]) (fun b => BkOk b 0 ∧ b.length ≤ 1000) fun b => (.o (.l ((bkF b []).map toD)), [])
theorem le_forms_of : Le G_forms_of (fnD 5 1 (B_forms_of G_form_of G_product)) := le_E fun b h => by
  obtain ⟨t2, t3, t4, hl⟩ := bk_loop (d0 := bkD b) b [] .emp .emp .emp (fun _ z => nomatch z) (fun _ z => nomatch z) (fun _ z => nomatch z) (fun f h => nomatch h) h.1 (by simp; have := h.2; omega)
  have hi : itemsD (bkD b) = some (b.map pcD) := rfl
  rw [List.map_nil] at hl
  simp [fnD, B_forms_of, startE, parIx, csAt, hi, hl]
theorem G_forms_of_at {b : List (List Pt)} (h1 : BkOk b 0) (h2 : b.length ≤ 1000) : G_forms_of [.v (bkD b)] = some (.o (.l ((bkF b []).map toD)), []) :=
  fnE_at (x := b) (fun x y e => by injection e with e; injection e with e; exact bkD_inj e) ⟨h1, h2⟩
theorem bkF_len : ∀ (b : List (List Pt)) (found : List Fm), (bkF b found).length = found.length + b.length
  | [], found => rfl
  | p :: r, found => by
    show (bkF r (found ++ [pcF found p])).length = _
    rw [bkF_len r, List.length_append, List.length_cons]; simp; omega
noncomputable def G_check_piece : Fn := fnE (fun x : List (List Pt) × Nat => [.v (bkD x.1), .v (.int x.2)]) (fun x => x.2 < x.1.length) fun _ => (.v .non, [])
theorem enc_bi : ∀ x y : List (List Pt) × Nat, [DD.Arg.v (bkD x.1), DD.Arg.v (.int x.2)] = [DD.Arg.v (bkD y.1), DD.Arg.v (.int y.2)] → x = y := fun x y e => by
  injection e with e1 e2
  injection e1 with e1
  injection e2 with e2 _
  injection e2 with e2
  injection e2 with e2
  have h1 := bkD_inj e1
  have h2 : x.2 = y.2 := Int.ofNat.inj e2
  cases x; cases y
  simp only at h1 h2
  rw [h1, h2]
theorem le_check_piece : Le G_check_piece (fnD 2 2 B_check_piece) := le_E fun x h => by
  obtain ⟨b, k⟩ := x
  have g1 : gLe (.int 0) (.int (k : Int)) = some (.bl true) := by
    show some (D.bl (decide ((0 : Int) ≤ (k : Int)))) = _
    rw [decide_eq_true (by omega)]
  have hk : k < b.length := h
  have g2 : gLt (.int (k : Int)) (.int ((b.length : Nat) : Int)) = some (.bl true) := by
    show some (D.bl (decide ((k : Int) < ((b.length : Nat) : Int)))) = _
    rw [decide_eq_true (by omega)]
  simp [fnD, B_check_piece, startE, parIx, csAt, eChn, bkD, g1, g2]
noncomputable def G_form_in : Fn := fnE (fun x : List (List Pt) × Nat => [.v (bkD x.1), .v (.int x.2)]) (fun x => x.2 < x.1.length ∧ x.1.length ≤ 1000 ∧ BkOk (x.1.take (x.2 + 1)) 0) fun x => (.v (toD ((bkF (x.1.take (x.2 + 1)) []).getD x.2 .e)), [])
theorem G_form_in_at {b : List (List Pt)} {k : Nat} (h1 : k < b.length) (h2 : b.length ≤ 1000) (h3 : BkOk (b.take (k + 1)) 0) : G_form_in [.v (bkD b), .v (.int k)] = some (.v (toD ((bkF (b.take (k + 1)) []).getD k .e)), []) :=
  fnE_at (x := (b, k)) enc_bi ⟨h1, h2, h3⟩
theorem le_form_in : Le G_form_in (fnD 2 2 (B_form_in G_check_piece G_forms_of)) := le_E fun x h => by
  obtain ⟨b, k⟩ := x
  obtain ⟨h1, h2, h3⟩ := h
  have h1 : k < b.length := h1
  have h2 : b.length ≤ 1000 := h2
  have c1 : G_check_piece [.v (bkD b), .v (.int (k : Int))] = some (.v .non, []) := fnE_at (x := (b, k)) enc_bi h1
  have lt : (b.take (k + 1)).length = k + 1 := by rw [List.length_take]; omega
  have c2 := G_forms_of_at (b := b.take (k + 1)) h3 (by rw [lt]; omega)
  have g1 : gAdd (.int (k : Int)) (.int 1) = some (.int ((k : Int) + 1)) := rfl
  have g2 : gSl (bkD b) none (some ((k : Int) + 1)) = some (bkD (b.take (k + 1))) := by
    show some (D.tup (cutL (b.map pcD) none (some (((k + 1 : Nat) : Int))))) = _
    rw [cut_to _ _ (by rw [List.length_map]; omega), ← List.map_take]; rfl
  have lb : k < (bkF (b.take (k + 1)) []).length := by rw [bkF_len, lt]; simp
  have g3 : gIxD (.lst ((bkF (b.take (k + 1)) []).map toD)) (.int (k : Int)) = some (toD ((bkF (b.take (k + 1)) []).getD k .e)) := by
    show atI _ _ = _
    refine atI_nat ?_
    rw [List.getElem?_map, List.getElem?_eq_getElem lb, List.getD_eq_getElem?_getD, List.getElem?_eq_getElem lb]; rfl
  simp [fnD, B_form_in, startE, parIx, csAt, c1, g1, g2, c2, g3]
end DG

end
section
set_option Elab.async false
set_option linter.all false
set_option maxRecDepth 100000
set_option maxHeartbeats 1000000
/-! L1: the helpers of the laws: draws, picks. -/
namespace DG
open PySem PySem.Spec PyProof.Rows L2 RZ DD FM
open TL (joinL)
open Classical
/-- the source of draws, after at most N of them -/
def Box (c : List D) (N : Nat) : Prop := ∃ x y z : Int, c = [.int x, .int y, .int z] ∧ 0 ≤ z ∧ z ≤ N
theorem Box.mono {c : List D} {N M : Nat} (h : Box c N) (hm : N ≤ M) : Box c M := by
  obtain ⟨x, y, z, e, h1, h2⟩ := h
  exact ⟨x, y, z, e, h1, by omega⟩
theorem mulR {i j : Int} (h : -(2 ^ 64) < j ∧ j < 2 ^ 64) : gMul (.int i) (.int j) = some (.int (i * j)) := by
  show (if mulOk i j = true then some (D.int (i * j)) else none) = _
  unfold mulOk
  rw [decide_eq_true h, Bool.or_true, if_pos rfl]
theorem mulL {i j : Int} (h : -(2 ^ 64) < i ∧ i < 2 ^ 64) : gMul (.int i) (.int j) = some (.int (i * j)) := by
  show (if mulOk i j = true then some (D.int (i * j)) else none) = _
  unfold mulOk
  rw [decide_eq_true h, Bool.or_true, Bool.true_or, if_pos rfl]
theorem modP {i j : Int} (h : 0 < j) : gMod (.int i) (.int j) = some (.int (i % j)) := if_pos h
theorem divP {i j : Int} (h : 0 < j) (h2 : j.natAbs.log2 < 9000) : gDiv (.int i) (.int j) = some (.int (i / j)) := if_pos ⟨h, h2⟩
theorem log_small {j : Int} (h0 : 0 < j) (h : j < 2 ^ 64) : j.natAbs.log2 < 9000 := by
  have h1 : j.natAbs < 2 ^ 64 := by omega
  have h2 : j.natAbs.log2 < 64 := (Nat.log2_lt (by omega)).mpr h1
  omega
@[simp] theorem addI (i j : Int) : gAdd (.int i) (.int j) = some (.int (i + j)) := rfl
@[simp] theorem gtI (i j : Int) : gGt (.int i) (.int j) = some (.bl (decide (j < i))) := rfl
@[simp] theorem ltI (i j : Int) : gLt (.int i) (.int j) = some (.bl (decide (i < j))) := rfl
@[simp] theorem geI (i j : Int) : gGe (.int i) (.int j) = some (.bl (decide (j ≤ i))) := rfl
@[simp] theorem intI (i : Int) : gInt (.v (.int i)) = some (.int i) := rfl
@[simp] theorem intB (b : Bool) : gInt (.v (.bl b)) = some (.int (if b then 1 else 0)) := rfl
@[simp] theorem absI (i : Int) : gAbs (.v (.int i)) = some (.int (if i < 0 then -i else i)) := rfl
@[simp] theorem ixL {xs : List D} {i : Int} : gIxS (.l xs) (.int i) = atI xs i := rfl
@[simp] theorem at0 {α : Type} (x : α) (r : List α) : atI (x :: r) 0 = some x := atI0 x r
@[simp] theorem at1 {α : Type} (x y : α) (r : List α) : atI (x :: y :: r) 1 = some y := atI1 x y r
@[simp] theorem at2 {α : Type} (x y z : α) (r : List α) : atI (x :: y :: z :: r) 2 = some z := atI2 x y z r
theorem put0 (x y z v : Int) : putC (.l [.int x, .int y, .int z]) (.int 0) (.int v) = some (.l [.int v, .int y, .int z]) := rfl
theorem put2 (x y z v : Int) : putC (.l [.int x, .int y, .int z]) (.int 2) (.int v) = some (.l [.int x, .int y, .int v]) := rfl

noncomputable def G_take : Fn := fnD 6 2 B__law_take
theorem take_at {c : List D} {N : Nat} {n : Int} (hB : Box c N) (hN : N < 2 ^ 40) (hn : 0 < n) (hn2 : n < 2 ^ 64) : ∃ v c', G_take [.c (.l c), .v (.int n)] = some (.v (.int v), [.l c']) ∧ Box c' (N + 1) ∧ 0 ≤ v ∧ v < n := by
  obtain ⟨x, y, z, rfl, hz, hz2⟩ := hB
  have hl := log_small hn hn2
  by_cases hx : 0 < x
  · refine ⟨x % n, [.int (x / n), .int y, .int z], ?_, ⟨_, _, _, rfl, hz, by omega⟩, Int.emod_nonneg _ (by omega), Int.emod_lt_of_pos _ hn⟩
    simp [G_take, fnD, B__law_take, B__law_take_0, startE, parIx, csAt, hx, modP hn, divP hn hl, put0]
  · have m1 : gMul (.int 48271) (.int (z + 1)) = some (.int (48271 * (z + 1))) := mulL (by omega)
    have m2 : ∀ i, gMul (.int i) (.int (39373 + (z + 1))) = some (.int (i * (39373 + (z + 1)))) := fun i => mulR (by omega)
    have m3 : ∀ i w : Int, gMul (.int i) (.int (w % 40009 + 7)) = some (.int (i * (w % 40009 + 7))) := fun i w => mulR (by omega)
    have m4 : ∀ w : Int, gMul (.int w) (.int 48271) = some (.int (w * 48271)) := fun w => mulR (by omega)
    have d1 : ∀ i, gMod (.int i) (.int 2147483647) = some (.int (i % 2147483647)) := fun i => modP (by omega)
    have d2 : ∀ i, gMod (.int i) (.int 40009) = some (.int (i % 40009)) := fun i => modP (by omega)
    have d3 : ∀ i, gMod (.int i) (.int 2147483629) = some (.int (i % 2147483629)) := fun i => modP (by omega)
    have d4 : ∀ i, gMod (.int i) (.int 2147483587) = some (.int (i % 2147483587)) := fun i => modP (by omega)
    have d5 : ∀ i, gMod (.int i) (.int n) = some (.int (i % n)) := fun i => modP hn
    have e1 : ∀ i, gDiv (.int i) (.int 1000003) = some (.int (i / 1000003)) := fun i => divP (by omega) (by decide)
    have e2 : ∀ i, gDiv (.int i) (.int 64) = some (.int (i / 64)) := fun i => divP (by omega) (by decide)
    have key : ∃ v, G_take [.c (.l [.int x, .int y, .int z]), .v (.int n)] = some (.v (.int (v % n)), [.l [.int x, .int y, .int (z + 1)]]) := by
      apply Exists.intro
      simp [G_take, fnD, B__law_take, B__law_take_0, B__law_take_1, B__law_take_2, B__law_take_3, B__law_take_4, B__law_take_5, startE, parIx, csAt, hx, put2, m1, m2, m3, m4, d1, d2, d3, d4, d5, e1, e2]
      rfl
    obtain ⟨v, hv⟩ := key
    exact ⟨_, _, hv, ⟨_, _, _, rfl, by omega, by omega⟩, Int.emod_nonneg _ (by omega), Int.emod_lt_of_pos _ hn⟩

/-! ### of, pick -/
noncomputable def G_of : Fn := fnD 2 2 (B__law_of G_take)
theorem of_at {c : List D} {N : Nat} {xs : List D} (hB : Box c N) (hN : N < 2 ^ 40) (h0 : xs ≠ []) (hl : xs.length ≤ 100000) : ∃ d c', d ∈ xs ∧ G_of [.c (.l c), .v (.lst xs)] = some (.v d, [.l c']) ∧ Box c' (N + 1) := by
  have hp : 0 < xs.length := List.length_pos_iff.mpr h0
  obtain ⟨v, c', h1, h2, h3, h4⟩ := take_at (n := (xs.length : Nat)) hB hN (by omega) (by omega)
  have hv : v.toNat < xs.length := by omega
  have e1 : atI xs v = some xs[v.toNat] := by
    have := atI_nat (xs := xs) (j := v.toNat) (List.getElem?_eq_getElem hv)
    rwa [Int.toNat_of_nonneg h3] at this
  refine ⟨xs[v.toNat], c', List.getElem_mem hv, ?_, h2⟩
  simp [G_of, fnD, B__law_of, startE, parIx, csAt, h1, e1]
theorem of_atS {c : List D} {N : Nat} {ls : List (List Nat)} (hB : Box c N) (hN : N < 2 ^ 40) (h0 : ls ≠ []) (hl : ls.length ≤ 100000) : ∃ l c', l ∈ ls ∧ G_of [.c (.l c), .v (.lst (ls.map D.str))] = some (.v (.str l), [.l c']) ∧ Box c' (N + 1) := by
  obtain ⟨d, c', h1, h2, h3⟩ := of_at (xs := ls.map D.str) hB hN (by simpa using h0) (by rw [List.length_map]; exact hl)
  obtain ⟨l, hl, rfl⟩ := List.mem_map.mp h1
  exact ⟨l, c', hl, h2, h3⟩
theorem erase_perm {α : Type} : ∀ {l : List α} {i : Nat} (h : i < l.length), (l[i] :: l.eraseIdx i).Perm l
  | x :: r, 0, _ => .refl _
  | x :: r, i + 1, h => by
    have h' : i < r.length := by simpa using h
    show (r[i] :: x :: r.eraseIdx i).Perm (x :: r)
    exact (List.Perm.swap x r[i] _).trans ((erase_perm h').cons x)
noncomputable def G_pick : Fn := fnD 6 3 (B__law_pick G_take)
theorem pick_loop {d1 d2 : D} : ∀ (ds pool found c : List D) (N : Nat) (s5 : Slot), (∀ c, s5 ≠ .par c) → Box c N → N + ds.length < 2 ^ 40 → ds.length ≤ pool.length → pool.length + found.length ≤ 100000 → ∃ pool' found' c' s5',
    forD (gN 5) (sSeq (sEx (eApp 4 (ePopA 3 (eCall G_take (gS 0 (gV (e1 gLen (sqL 3)) gNil0)))))) sNx) ds [.par (.l c), .val d1, .val d2, .liv (.l pool), .liv (.l found), s5]
      = some (.nx [.par (.l c'), .val d1, .val d2, .liv (.l pool'), .liv (.l found'), s5']) ∧ (found' ++ pool').Perm (found ++ pool) ∧ found'.length = found.length + ds.length ∧ Box c' (N + ds.length)
  | [], pool, found, c, N, s5, _, hB, _, _, _ => ⟨pool, found, c, s5, rfl, .refl _, rfl, hB⟩
  | d :: ds, pool, found, c, N, s5, hs, hB, hN, hd, hz => by
    have hd : ds.length + 1 ≤ pool.length := hd
    have hN : N + (ds.length + 1) < 2 ^ 40 := hN
    obtain ⟨v, c', h1, h2, h3, h4⟩ := take_at (n := (pool.length : Nat)) hB (by omega) (by omega) (by omega)
    have hv : v.toNat < pool.length := by omega
    have e1 : seqIndex? v pool.length = some v.toNat := seqIndex_of h3 (by omega)
    have e2 : pool[v.toNat]? = some pool[v.toNat] := List.getElem?_eq_getElem hv
    have le : (pool.eraseIdx v.toNat).length = pool.length - 1 := List.length_eraseIdx_of_lt hv
    obtain ⟨pool', found', c2, s5', g1, g2, g3, g4⟩ := pick_loop (d1 := d1) (d2 := d2) ds (pool.eraseIdx v.toNat) (found ++ [pool[v.toNat]]) c' (N + 1) (.val d) (fun _ z => nomatch z) h2 (by omega) (by omega) (by rw [le, List.length_append]; simp; omega)
    refine ⟨pool', found', c2, s5', ?_, ?_, by rw [g3, List.length_append]; simp; omega, by
      have e : N + (d :: ds).length = N + 1 + ds.length := by rw [List.length_cons]; omega
      rw [e]; exact g4⟩
    · have hg : gN 5 d [.par (.l c), .val d1, .val d2, .liv (.l pool), .liv (.l found), s5] = some [.par (.l c), .val d1, .val d2, .liv (.l pool), .liv (.l found), .val d] := by
        cases s5 with
        | par c => exact absurd rfl (hs c)
        | _ => rfl
      have hf : found.length ≤ 100000 := by omega
      have hv2 : -9223372036854775808 ≤ v ∧ v < 9223372036854775808 := by omega
      unfold forD
      rw [hg, Option.bind_some, ← g1]
      simp [eApp, ePopA, lsOf, h1, e1, e2, hv2, hf]
    · refine g2.trans ?_
      rw [List.append_assoc]
      refine List.Perm.append_left found ?_
      show (pool[v.toNat] :: pool.eraseIdx v.toNat).Perm pool
      exact erase_perm hv
theorem pick_at {c : List D} {N : Nat} {xs : List D} {k : Int} (hB : Box c N) (hl : xs.length ≤ 1000) (hk : 0 ≤ k) (hN : N + 1000 < 2 ^ 40) : ∃ ys zs c', G_pick [.c (.l c), .v (.lst xs), .v (.int k)] = some (.o (.l ys), [.l c']) ∧ (ys ++ zs).Perm xs ∧ ys.length = min k.toNat xs.length ∧ Box c' (N + 1000) := by
  have em : gMin2 (.int k) (.int ((xs.length : Nat) : Int)) = some (.int ((min k.toNat xs.length : Nat) : Int)) := by
    show some (D.int (if ((xs.length : Nat) : Int) < k then ((xs.length : Nat) : Int) else k)) = _
    congr 2
    split <;> omega
  have hm : min k.toNat xs.length ≤ xs.length := Nat.min_le_right _ _
  obtain ⟨pool', found', c', s5', g1, g2, g3, g4⟩ := pick_loop (d1 := .lst xs) (d2 := .int k) ((List.range (min k.toNat xs.length)).map fun (n : Nat) => D.int (0 + n)) xs [] c N .emp (fun _ z => nomatch z) hB (by rw [List.length_map, List.length_range]; omega) (by rw [List.length_map, List.length_range]; exact hm) (by simp; omega)
  rw [List.length_map, List.length_range] at g3 g4
  refine ⟨found', pool', c', ?_, g2, by rw [g3]; simp, g4.mono (by omega)⟩
  have gl : gList (.l xs) = some (.l xs) := rfl
  have hb : ((min k.toNat xs.length : Nat) : Int) < 4611686018427387904 := by omega
  generalize min k.toNat xs.length = M at em g1 hb
  simp only [Int.zero_add] at g1
  simp [G_pick, fnD, B__law_pick, startE, parIx, csAt, gl, em, hb, g1]
end DG

end
section
set_option Elab.async false
set_option linter.all false
set_option maxRecDepth 100000
set_option maxHeartbeats 1000000
/-! L2a: the helpers of the laws: letters, plans, own forms. -/
namespace DG
open PySem PySem.Spec PyProof.Rows L2 RZ DD FM
open TL (joinL)
open Classical
abbrev alp : List Nat := [97, 98, 99, 100, 101, 102, 103, 104]
theorem of_sgn {al : List Nat} : ∀ {ys : List D}, (∀ d ∈ ys, ∃ c ∈ al, d = sgn c) → ∃ cs : List Nat, ys = cs.map sgn ∧ ∀ c ∈ cs, c ∈ al
  | [], _ => ⟨[], rfl, fun c h => nomatch h⟩
  | d :: r, h => by
    obtain ⟨c, hc, rfl⟩ := h d List.mem_cons_self
    obtain ⟨cs, e, hcs⟩ := of_sgn (al := al) (ys := r) fun x hx => h x (List.mem_cons_of_mem _ hx)
    refine ⟨c :: cs, by rw [e]; rfl, fun x hx => ?_⟩
    rcases List.mem_cons.mp hx with rfl | hx
    · exact hc
    · exact hcs x hx
theorem sgn_inj {a b : Nat} (h : sgn a = sgn b) : a = b := by
  injection h with h
  injection h
theorem nodup_sgn {cs : List Nat} : (cs.map sgn).Nodup ↔ cs.Nodup := by
  rw [List.nodup_iff_pairwise_ne, List.nodup_iff_pairwise_ne, List.pairwise_map]
  exact ⟨fun h => h.imp fun hn e => hn (congrArg sgn e), fun h => h.imp fun hn e => hn (sgn_inj e)⟩
theorem picked {al : List Nat} (hal : al.Nodup) {ys zs : List D} (hp : (ys ++ zs).Perm (al.map sgn)) : ∃ cs : List Nat, ys = cs.map sgn ∧ (∀ c ∈ cs, c ∈ al) ∧ cs.Nodup := by
  have mem : ∀ d ∈ ys, ∃ c ∈ al, d = sgn c := fun d hd => by
    have := hp.mem_iff.mp (List.mem_append_left zs hd)
    obtain ⟨c, hc, e⟩ := List.mem_map.mp this
    exact ⟨c, hc, e.symm⟩
  obtain ⟨cs, e, h⟩ := of_sgn mem
  refine ⟨cs, e, h, ?_⟩
  have h1 : (ys ++ zs).Nodup := hp.symm.nodup (nodup_sgn.mpr hal)
  have h2 : ys.Nodup := (List.nodup_append.mp h1).1
  rw [e] at h2
  exact nodup_sgn.mp h2
theorem chars_sgn (w : List Nat) : (chars w).map D.str = w.map sgn := by
  unfold chars
  rw [List.map_map]; rfl
theorem alp_nodup : alp.Nodup := by decide
noncomputable def G_letters : Fn := fnD 2 2 (B__law_letters G_pick)
theorem sort_map (cs : List Nat) : ∃ ws : List Nat, sortS (cs.map fun c => [c]) = ws.map (fun c => [c]) ∧ ws.Perm cs := by
  have hp := sortS_perm (cs.map fun c => [c])
  have h1 : ∀ l ∈ sortS (cs.map fun c => [c]), ∃ c, l = [c] := fun l hl => by
    obtain ⟨c, _, e⟩ := List.mem_map.mp (hp.mem_iff.mp hl)
    exact ⟨c, e.symm⟩
  refine ⟨(sortS (cs.map fun c => [c])).flatten, flat_ones h1, ?_⟩
  have := hp.flatten
  rwa [flat_chars] at this
theorem letters_at {c : List D} {N : Nat} {k : Int} (hB : Box c N) (hk : 0 ≤ k) (hN : N + 1000 < 2 ^ 40) : ∃ w c', G_letters [.c (.l c), .v (.int k)] = some (.v (.str w), [.l c']) ∧ Okw w ∧ w.Nodup ∧ w.length ≤ 8 ∧ Box c' (N + 1000) := by
  obtain ⟨ys, zs, c', h1, h2, h3, h4⟩ := pick_at (xs := alp.map sgn) hB (by decide) hk hN
  obtain ⟨cs, rfl, h5, h6⟩ := picked alp_nodup h2
  obtain ⟨ws, e, hp⟩ := sort_map cs
  have hlen : cs.length ≤ 8 := by
    rw [List.length_map, List.length_map] at h3
    rw [h3]; exact Nat.min_le_right _ _
  have hwl : ws.length ≤ 8 := by rw [hp.length_eq]; exact hlen
  have ok : Okw ws := fun x hx => by
    have : x ∈ alp := h5 x (hp.mem_iff.mp hx)
    have : x = 97 ∨ x = 98 ∨ x = 99 ∨ x = 100 ∨ x = 101 ∨ x = 102 ∨ x = 103 ∨ x = 104 := by simpa [alp] using this
    omega
  refine ⟨ws, c', ?_, ok, hp.symm.nodup h6, hwl, h4⟩
  have gl : gList (.s [97, 98, 99, 100, 101, 102, 103, 104]) = some (.l (alp.map sgn)) := rfl
  have gs : gSort (.l (cs.map sgn)) = some (.l (ws.map sgn)) := by
    have es : cs.map sgn = (cs.map fun c => [c]).map D.str := by rw [List.map_map]; rfl
    show (strsOf (cs.map sgn)).bind _ = _
    rw [es, strsOf_map, Option.bind_some, if_pos (by rw [List.length_map]; omega), e, List.map_map]; rfl
  have gj : gJoin [] (.l (ws.map sgn)) = some (.str ws) := join_chars (by omega)
  clear h2 h3
  generalize alp.map sgn = X at gl h1
  simp [G_letters, fnD, B__law_letters, startE, parIx, csAt, gl, h1, gs, gj]

/-! ### plans -/
noncomputable def G_plan : Fn := fnD 4 3 (B__law_plan G_take G_of)
theorem plan_loop {ls : List Nat} {d2 : D} (h0 : ls ≠ []) (hl : ls.length ≤ 1000) : ∀ (ds : List D) (c : List D) (N : Nat), Box c N → N + ds.length < 2 ^ 40 → ∃ ws c',
    lcD (gN 3) etT (eCall G_of (gS 0 (gV (eFz (o1 gList (sqL 1))) gNil0))) [3] ds [.par (.l c), .val (.str ls), .val d2, .emp] = some ((ws : List Nat).map sgn, [.par (.l c'), .val (.str ls), .val d2, .emp]) ∧ (∀ x ∈ ws, x ∈ ls) ∧ ws.length = ds.length ∧ Box c' (N + ds.length)
  | [], c, N, hB, _ => ⟨[], c, rfl, (fun x h => nomatch h), rfl, hB⟩
  | d :: ds, c, N, hB, hN => by
    have hN : N + (ds.length + 1) < 2 ^ 40 := hN
    obtain ⟨l, c', h1, h2, h3⟩ := of_atS (ls := chars ls) hB (by omega) (by simpa [chars] using h0) (by simp [chars]; omega)
    obtain ⟨x, hx, rfl⟩ := mem_chars.mp h1
    obtain ⟨ws, c2, g1, g2, g3, g4⟩ := plan_loop (d2 := d2) h0 hl ds c' (N + 1) h3 (by omega)
    refine ⟨x :: ws, c2, ?_, ?_, by rw [List.length_cons, List.length_cons, g3], ?_⟩
    · have gl : gList (.s ls) = some (.l ((chars ls).map D.str)) := if_pos (by omega)
      unfold lcD
      simp [gl, h2, g1]
    · intro y hy
      rcases List.mem_cons.mp hy with rfl | hy
      · exact hx
      · exact g2 y hy
    · have e : N + (d :: ds).length = N + 1 + ds.length := by rw [List.length_cons]; omega
      rw [e]; exact g4
theorem plan_at {c : List D} {N : Nat} {ls : List Nat} {k : Int} (hB : Box c N) (hl : ls.length ≤ 1000) (hk : 0 ≤ k) (hk2 : k ≤ 1000) (hN : N + 2000 < 2 ^ 40) : ∃ w c', G_plan [.c (.l c), .v (.str ls), .v (.int k)] = some (.v (.str w), [.l c']) ∧ (∀ x ∈ w, x ∈ ls) ∧ w.length ≤ k.toNat ∧ Box c' (N + 2000) := by
  by_cases h0 : ls = []
  · subst h0
    refine ⟨[], c, ?_, (fun x h => nomatch h), Nat.zero_le _, hB.mono (by omega)⟩
    simp [G_plan, fnD, B__law_plan, startE, parIx, csAt]
  · obtain ⟨v, c', h1, h2, h3, h4⟩ := take_at (n := k + 1) hB (by omega) (by omega) (by omega)
    obtain ⟨ws, c2, g1, g2, g3, g4⟩ := plan_loop (d2 := .int k) h0 hl ((List.range v.toNat).map fun (n : Nat) => D.int (0 + n)) c' (N + 1) h2 (by rw [List.length_map, List.length_range]; omega)
    rw [List.length_map, List.length_range] at g3 g4
    refine ⟨ws, c2, ?_, g2, by omega, g4.mono (by omega)⟩
    have hb : -4611686018427387904 ≤ v ∧ v < 4611686018427387904 := by omega
    have gj : gJoin [] (.l (ws.map sgn)) = some (.str ws) := join_chars (by omega)
    have hv : v.toNat ≤ 100000 := by omega
    simp only [Int.zero_add] at g1
    simp [G_plan, fnD, B__law_plan, startE, parIx, csAt, h0, h1, hb, g1, gj, hv, noPar]

/-! ### own forms -/
theorem max_first {w : List Nat} (h : w ≠ []) : ∀ c ∈ w, ∃ i, fst1 c w = some i ∧ i ≤ (pf w).length := fun c hc => by
  rcases (mem_p h).mp hc with rfl | hc
  · exact ⟨_, fst1_pf h, Nat.le_refl _⟩
  · cases hi : fst1 c w with
    | none => exact absurd ((mem_p h).mpr (.inr hc)) (fst1_none.mp hi)
    | some i =>
      refine ⟨i, rfl, ?_⟩
      obtain ⟨y, hy⟩ := pf_split h
      obtain ⟨h1, h2⟩ := fst1_some.mp hi
      obtain ⟨j, hj, e⟩ := List.getElem_of_mem hc
      have : w[j]? = some c := by
        have e2 : w[j]? = (pf w ++ pl w :: y)[j]? := congrArg (fun l : List Nat => l[j]?) hy
        rw [e2, List.getElem?_append_left hj, List.getElem?_eq_getElem hj, e]
      rcases Nat.lt_or_ge j i with z | z
      · exact absurd this (h2 j z)
      · omega
def fi (c : Nat) (l : List Nat) : Int := match fst1 c l with | some i => (i : Int) | none => -1
theorem find_fi {l : List Nat} {c : Nat} : gFind l (.s [c]) = some (.int (fi c l)) := rfl
theorem fi_some {c : Nat} {l : List Nat} {i : Nat} (h : fst1 c l = some i) : fi c l = (i : Int) := by unfold fi; rw [h]
noncomputable def G_lnew : Fn := fnD 3 1 B__law_last_new
theorem lnew_at {w : List Nat} (h : w ≠ []) (hl : w.length ≤ 1000) : G_lnew [.v (.str w)] = some (.v (.tup [.str (pf w), .str [pl w]]), []) := by
  have eS : (sortS (dedup (chars w))).map D.str = (ltS w).map sgn := by
    rw [flat_ones (sort_ones w), List.map_map]; rfl
  have key := lc_map (j := 2) (elt := eM1 gFind (eMv 0) (sqL 2)) (Lw := [.val (.str w), .emp, .emp]) rfl (fun d => match d with | .str [x] => .int (fi x w) | _ => .non) ((ltS w).map sgn) (fun d hd => by
    obtain ⟨x, hx, rfl⟩ := List.mem_map.mp hd
    simp [-x_findS, find_fi])
  rw [List.map_map] at key
  have eI : ((ltS w).map ((fun d => match d with | .str [x] => D.int (fi x w) | _ => .non) ∘ sgn)) = ((ltS w).map fun x => fi x w).map D.int := by
    rw [List.map_map]; rfl
  rw [eI] at key
  have gm : DD.gMax (.l (((ltS w).map fun x => fi x w).map D.int)) = some (.int ((pf w).length : Int)) := by
    show (intsOf _).bind _ = _
    rw [intsOf_map, Option.bind_some]
    have hne : ltS w ≠ [] := by
      intro z
      have : pl w ∈ ltS w := mem_ltS.mpr ((mem_p h).mpr (.inl rfl))
      rw [z] at this; cases this
    obtain ⟨a, r, e⟩ : ∃ a r, ltS w = a :: r := by
      cases hx : ltS w with
      | nil => exact absurd hx hne
      | cons a r => exact ⟨a, r, rfl⟩
    have hmem : ∀ x, x ∈ a :: r ↔ x ∈ w := fun x => by rw [← e]; exact mem_ltS
    rw [e, List.map_cons]
    show some (D.int ((r.map _).foldl max _)) = _
    obtain ⟨m1, m2⟩ := foldl_max (r.map fun x => fi x w) (fi a w)
    congr 2
    refine Int.le_antisymm ?_ ?_
    · rw [← List.map_cons (f := fun x => fi x w)] at m1
      obtain ⟨x, hx, ex⟩ := List.mem_map.mp m1
      obtain ⟨i, hi, hle⟩ := max_first h x ((hmem x).mp hx)
      rw [← ex, fi_some hi]
      omega
    · have := m2 (fi (pl w) w) (by
        rw [← List.map_cons (f := fun x => fi x w)]
        exact List.mem_map.mpr ⟨pl w, (hmem _).mpr ((mem_p h).mpr (.inl rfl)), rfl⟩)
      rw [fi_some (fst1_pf h)] at this
      exact this
  have hle : (pf w).length < w.length := pf_lt h
  obtain ⟨y, hy⟩ := pf_split h
  have c1 : cutL w none (some ((pf w).length : Int)) = pf w := by
    rw [cut_to w _ (by omega)]
    exact (congrArg (List.take (pf w).length) hy).trans (List.take_left ..)
  have c2 : gIxS (.s w) (.int ((pf w).length : Int)) = some (.str [pl w]) := by
    show (atI w _).map _ = _
    rw [atI_nat (v := pl w) ((congrArg (fun l : List Nat => l[(pf w).length]?) hy).trans (by rw [List.getElem?_append_right (Nat.le_refl _), Nat.sub_self]; rfl))]; rfl
  have hz : (ltS w).length ≤ 100000 := by have := ltS_len w; omega
  have gl : (sortS (dedup (chars w))).length = (ltS w).length := by
    have := congrArg List.length eS
    rwa [List.length_map, List.length_map] at this
  generalize ((ltS w).map fun x => fi x w).map D.int = X at key gm
  simp [-x_findS, G_lnew, fnD, B__law_last_new, startE, parIx, csAt, hl, eS, key, gm, c1, c2, hz, noPar]
noncomputable def G_lform (m : Nat) : Fn := fnS fun w => if w.length ≤ 1000 ∧ dep (form w) ≤ m then some (toD (form w)) else none
theorem lform_at {m : Nat} {w : List Nat} (h1 : w.length ≤ 1000) (h2 : dep (form w) ≤ m) : G_lform m [.v (.str w)] = some (.v (toD (form w)), []) := by
  show ((if w.length ≤ 1000 ∧ dep (form w) ≤ m then some (toD (form w)) else none).map _) = _
  rw [if_pos ⟨h1, h2⟩]; rfl
theorem le_lform (m : Nat) : Le (G_lform (m + 1)) (fnD 3 1 (B__law_form G_lnew (G_lform m))) := le_S fun w d h => by
  split at h
  · rename_i hs
    obtain ⟨h1, h2⟩ := hs
    cases h
    by_cases hw : w = []
    · subst hw
      simp [fnD, B__law_form, startE, parIx, csAt, form_nil, toD]
    · have d1 : dep (form (pf w)) ≤ m ∧ dep (form (sf w)) ≤ m := by
        rw [form_eq hw] at h2
        have : max (dep (form (pf w))) (dep (form (sf w))) + 1 ≤ m + 1 := h2
        omega
      have l1 := pf_lt hw
      have l2 := sf_lt hw
      have n1 := lnew_at hw h1
      have n2 := lnew_at (rev_ne hw) (by rw [List.length_reverse]; exact h1)
      have e1 : pf w.reverse = (sf w).reverse := by unfold pf; rw [List.reverse_reverse]
      have e2 : pl w.reverse = sl w := by unfold pl; rw [List.reverse_reverse]
      rw [e1, e2] at n2
      have f1 := lform_at (m := m) (w := pf w) (by omega) d1.1
      have f2 := lform_at (m := m) (w := sf w) (by omega) d1.2
      rw [form_eq hw, toD_n]
      simp [fnD, B__law_form, startE, parIx, csAt, hw, n1, n2, f1, f2]
  · cases h
noncomputable def G_left : Fn := fnSS fun w ls => if w.length ≤ 100000 then some (.str (del ls w)) else none
theorem left_at {w ls : List Nat} (h : w.length ≤ 100000) : G_left [.v (.str w), .v (.str ls)] = some (.v (.str (del ls w)), []) := by
  show ((if w.length ≤ 100000 then some (D.str (del ls w)) else none).map _) = _
  rw [if_pos h]; rfl
theorem le_left : Le G_left (fnD 3 2 B__law_left) := le_SS fun w ls d h => by
  split at h
  · rename_i hl
    cases h
    have key := lc_sgn (j := 2) (tt := etB (eOpS (gIn true) (eMv 2) (sqL 1))) (Lw := [.val (.str w), .val (.str ls), .emp]) rfl (fun x => !decide (x ∈ ls)) w (fun x _ => by simp)
    have hj : gJoin [] (.l ((del ls w).map sgn)) = some (.str (del ls w)) := join_chars (Nat.le_trans (List.length_filter_le _ _) (by omega))
    unfold del at hj ⊢
    simp [fnD, B__law_left, startE, parIx, csAt, noPar, key, hl, hj]
  · cases h
end DG

end
section
set_option Elab.async false
set_option linter.all false
set_option maxRecDepth 100000
set_option maxHeartbeats 1000000
/-! L3: the law's own comparison. -/
namespace DG
open PySem PySem.Spec PyProof.Rows L2 RZ DD FM
open TL (joinL)
open Classical
def sok : Nat → D → Prop
  | 0, _ => False
  | m + 1, .lst xs => xs.length ≤ 1000 ∧ ∀ x ∈ xs, sok m x
  | m + 1, .tup xs => xs.length ≤ 1000 ∧ ∀ x ∈ xs, sok m x
  | _ + 1, .scr _ => False
  | _ + 1, _ => True
noncomputable def G_same (m : Nat) : Fn := fnE (fun d : D => [.v d, .v d]) (fun d => sok m d) fun _ => (.v (.bl true), [])
theorem same_at {m : Nat} {d : D} (h : sok m d) : G_same m [.v d, .v d] = some (.v (.bl true), []) :=
  fnE_at (x := d) (fun x y e => by injection e with e; injection e) h
@[simp] theorem neB (a b : Bool) : gNe (.bl a) (.bl b) = some (.bl (!decide (a = b))) := rfl
@[simp] theorem eqB (a b : Bool) : gEq (.bl a) (.bl b) = some (.bl (decide (a = b))) := rfl
theorem same_loop {m : Nat} {d0 d1 : D} : ∀ xs : List D, (∀ x ∈ xs, sok m x) → lcD (gU 2 (gCn (gN 2) (gCn (gN 3) gNl))) etT (eCall (G_same m) (gV (eMv 2) (gV (eMv 3) gNil0))) [2, 3] ((xs.zip xs).map fun p => D.tup [p.1, p.2]) [.val d0, .val d1, .emp, .emp] = some (xs.map fun _ => .bl true, [.val d0, .val d1, .emp, .emp])
  | [], _ => rfl
  | x :: r, h => by
    have ih := same_loop (d0 := d0) (d1 := d1) r fun y hy => h y (List.mem_cons_of_mem _ hy)
    have hx := same_at (h x List.mem_cons_self)
    rw [List.zip_cons_cons, List.map_cons]
    unfold lcD
    simp [hx, ih]
theorem all_true (xs : List D) : DD.gAll (.l (xs.map fun _ => .bl true)) = some (.bl true) := by
  have e : (xs.map fun _ => D.bl true) = (xs.map fun _ => true).map D.bl := by rw [List.map_map]; rfl
  show (blsOf _).map _ = _
  rw [e, blsOf_map]
  simp
theorem le_same (m : Nat) : Le (G_same (m + 1)) (fnD 4 2 (B__law_same (G_same m))) := le_E fun d h => by
  have is1 : ∀ l, gIs (.str l) .non = some (.bl false) := fun _ => rfl
  have is2 : ∀ b, gIs (.bl b) .non = some (.bl false) := fun _ => rfl
  have is3 : ∀ i, gIs (.int i) .non = some (.bl false) := fun _ => rfl
  have is4 : gIs .non .non = some (.bl true) := rfl
  cases d with
  | non => simp [fnD, B__law_same, B__law_same_0, B__law_same_1, startE, parIx, csAt, isiS, is4]
  | bl b => simp [fnD, B__law_same, B__law_same_0, B__law_same_1, B__law_same_2, startE, parIx, csAt, isiS, is2]
  | int i => simp [fnD, B__law_same, B__law_same_0, B__law_same_1, B__law_same_2, B__law_same_3, startE, parIx, csAt, isiS, is3]
  | str l => simp [fnD, B__law_same, B__law_same_0, B__law_same_1, B__law_same_2, startE, parIx, csAt, isiS, is1]
  | lst xs =>
    obtain ⟨h1, h2⟩ := h
    have key := same_loop (d0 := .lst xs) (d1 := .lst xs) xs h2
    have ga := all_true xs
    generalize (xs.map fun _ => D.bl true) = Y at key ga
    have hz : ((xs.zip xs).map fun p => D.tup [p.1, p.2]).length ≤ 100000 := by simp; omega
    generalize hP : ((xs.zip xs).map fun p => D.tup [p.1, p.2]) = Z at key hz
    simp [fnD, B__law_same, B__law_same_0, startE, parIx, csAt, isiS, noPar, hP, hz, key, ga]
  | tup xs =>
    obtain ⟨h1, h2⟩ := h
    have key := same_loop (d0 := .tup xs) (d1 := .tup xs) xs h2
    have ga := all_true xs
    generalize (xs.map fun _ => D.bl true) = Y at key ga
    have hz : ((xs.zip xs).map fun p => D.tup [p.1, p.2]).length ≤ 100000 := by simp; omega
    generalize hP : ((xs.zip xs).map fun p => D.tup [p.1, p.2]) = Z at key hz
    simp [fnD, B__law_same, B__law_same_0, startE, parIx, csAt, isiS, noPar, hP, hz, key, ga]
  | scr ns => exact h.elim
theorem sok_form : ∀ (m : Nat) {f : Fm}, dep f < m → sok (m + 1) (toD f)
  | 0, f, h => absurd h (Nat.not_lt_zero _)
  | m + 1, .e, _ => ⟨Nat.zero_le _, fun x h => nomatch h⟩
  | m + 1, .n l a b r, h => by
    have h : max (dep l) (dep r) + 1 < m + 1 := h
    refine ⟨by show 4 ≤ 1000; decide, fun x hx => ?_⟩
    have : x = toD l ∨ x = .str [a] ∨ x = .str [b] ∨ x = toD r := by simpa using hx
    rcases this with rfl | rfl | rfl | rfl
    · exact sok_form m (by omega)
    · trivial
    · trivial
    · exact sok_form m (by omega)
end DG

end
section
set_option Elab.async false
set_option linter.all false
set_option maxRecDepth 100000
set_option maxHeartbeats 1000000
/-! E2: loops and comprehensions by what holds of what is behind. -/
namespace DD
open PySem PySem.Spec PyProof.Rows L2 RZ
section
variable {α : Type} {enc : α → D} {g : GV} {body : SV}
theorem for_pre (I : List α → Env → Prop) : ∀ (xs pre : List α) {L : Env}, I pre L → (∀ (pre' : List α) (x : α) (post : List α), pre ++ xs = pre' ++ x :: post → ∀ L, I pre' L → ∃ L1 L', g (enc x) L = some L1 ∧ body L1 = some (.nx L') ∧ I (pre' ++ [x]) L') →
    ∃ L', forD g body (xs.map enc) L = some (.nx L') ∧ I (pre ++ xs) L'
  | [], pre, L, h, _ => ⟨L, rfl, by rw [List.append_nil]; exact h⟩
  | x :: r, pre, L, h, st => by
    obtain ⟨L1, L2, h1, h2, h3⟩ := st pre x r rfl L h
    obtain ⟨L', h4, h5⟩ := for_pre I r (pre ++ [x]) h3 fun pre' y post e => st pre' y post (by rw [← e, List.append_assoc]; rfl)
    refine ⟨L', ?_, by rw [List.append_assoc] at h5; exact h5⟩
    rw [List.map_cons]
    unfold forD
    rw [h1, Option.bind_some, h2, Option.bind_some]
    exact h4
/-- .. a state that is folded -/
theorem for_fold {σ : Type} (f : σ → α → σ) (I : σ → Env → Prop) : ∀ (xs : List α) (s : σ) {L : Env}, I s L → (∀ x ∈ xs, ∀ s L, I s L → ∃ L1 L', g (enc x) L = some L1 ∧ body L1 = some (.nx L') ∧ I (f s x) L') →
    ∃ L', forD g body (xs.map enc) L = some (.nx L') ∧ I (xs.foldl f s) L'
  | [], s, L, h, _ => ⟨L, rfl, h⟩
  | x :: r, s, L, h, st => by
    obtain ⟨L1, L2, h1, h2, h3⟩ := st x List.mem_cons_self s L h
    obtain ⟨L', h4, h5⟩ := for_fold f I r (f s x) h3 fun y hy => st y (List.mem_cons_of_mem _ hy)
    refine ⟨L', ?_, h5⟩
    rw [List.map_cons]
    unfold forD
    rw [h1, Option.bind_some, h2, Option.bind_some]
    exact h4
/-- the loop comes to a return at the first of its kind -/
theorem for_ret (I : List α → Env → Prop) {P : α → Prop} {Q : Ret → Env → Prop} : ∀ (xs pre : List α) {L : Env}, I pre L → (∃ x ∈ xs, P x) → (∀ (pre' : List α) (x : α) (post : List α), pre ++ xs = pre' ++ x :: post → ∀ L, I pre' L → ∃ L1, g (enc x) L = some L1 ∧ ((P x ∧ ∃ r L', body L1 = some (.rt r L') ∧ Q r L') ∨ (¬ P x ∧ ∃ L', body L1 = some (.nx L') ∧ I (pre' ++ [x]) L'))) →
    ∃ r L', forD g body (xs.map enc) L = some (.rt r L') ∧ Q r L'
  | [], pre, L, h, ex, _ => by obtain ⟨x, hx, _⟩ := ex; cases hx
  | x :: r, pre, L, h, ex, st => by
    obtain ⟨L1, h1, h2⟩ := st pre x r rfl L h
    rcases h2 with ⟨_, rr, L', h2, q⟩ | ⟨np, L2, h2, h3⟩
    · refine ⟨rr, L', ?_, q⟩
      rw [List.map_cons]
      unfold forD
      rw [h1, Option.bind_some, h2, Option.bind_some]
    · obtain ⟨rr, L', h4, h5⟩ := for_ret I r (pre ++ [x]) h3 (by
        obtain ⟨y, hy, py⟩ := ex
        rcases List.mem_cons.mp hy with rfl | hy
        · exact absurd py np
        · exact ⟨y, hy, py⟩) fun pre' y post e => st pre' y post (by rw [← e, List.append_assoc]; rfl)
      refine ⟨rr, L', ?_, h5⟩
      rw [List.map_cons]
      unfold forD
      rw [h1, Option.bind_some, h2, Option.bind_some]
      exact h4
variable {tt : ET} {elt : EV} {vs : List Nat}
theorem lc_pre (I : List α → List D → Env → Prop) : ∀ (xs pre : List α) (rs : List D) {L : Env}, I pre rs L →
    (∀ (pre' : List α) (x : α) (post : List α), pre ++ xs = pre' ++ x :: post → ∀ rs L, I pre' rs L → ∃ L1 b L2, g (enc x) L = some L1 ∧ tt L1 = some (b, L2) ∧ ((b = true ∧ ∃ d L3, elt L2 = some (d, L3) ∧ I (pre' ++ [x]) (rs ++ [d]) (wipeE L3 vs)) ∨ (b = false ∧ I (pre' ++ [x]) rs (wipeE L2 vs)))) →
    ∃ rs' L', lcD g tt elt vs (xs.map enc) L = some (rs', L') ∧ I (pre ++ xs) (rs ++ rs') L'
  | [], pre, rs, L, h, _ => ⟨[], L, rfl, by rw [List.append_nil, List.append_nil]; exact h⟩
  | x :: r, pre, rs, L, h, st => by
    obtain ⟨L1, b, L2, h1, h2, h3⟩ := st pre x r rfl rs L h
    rcases h3 with ⟨rfl, d, L3, h3, h4⟩ | ⟨rfl, h4⟩
    · obtain ⟨rs', L', h5, h6⟩ := lc_pre I r (pre ++ [x]) (rs ++ [d]) h4 fun pre' y post e => st pre' y post (by rw [← e, List.append_assoc]; rfl)
      refine ⟨d :: rs', L', ?_, by rw [List.append_assoc, List.append_assoc] at h6; exact h6⟩
      rw [List.map_cons]
      unfold lcD
      rw [h1, Option.bind_some, h2, Option.bind_some]
      show ((elt L2).bind _) = _
      rw [h3, Option.bind_some, h5]; rfl
    · obtain ⟨rs', L', h5, h6⟩ := lc_pre I r (pre ++ [x]) rs h4 fun pre' y post e => st pre' y post (by rw [← e, List.append_assoc]; rfl)
      refine ⟨rs', L', ?_, by rw [List.append_assoc] at h6; exact h6⟩
      rw [List.map_cons]
      unfold lcD
      rw [h1, Option.bind_some, h2, Option.bind_some]
      exact h5
/-- one clause with one name at slot j; nothing else changes -/
theorem lc_fA {j : Nat} {Lw : Env} (hE : Lw[j]? = some .emp) (f : α → Bool) (F : α → D) : ∀ xs : List α, (∀ x ∈ xs, tt (Lw.set j (.val (enc x))) = some (f x, Lw.set j (.val (enc x)))) → (∀ x ∈ xs, f x = true → elt (Lw.set j (.val (enc x))) = some (F x, Lw.set j (.val (enc x)))) →
    lcD (gN j) tt elt [j] (xs.map enc) Lw = some ((xs.filter f).map F, Lw)
  | [], _, _ => rfl
  | x :: xs, ht, he => by
    have hj : j < Lw.length := (List.getElem?_eq_some_iff.mp hE).1
    have ih := lc_fA hE f F xs (fun y hy => ht y (List.mem_cons_of_mem _ hy)) (fun y hy => he y (List.mem_cons_of_mem _ hy))
    have hg : gN j (enc x) Lw = some (Lw.set j (.val (enc x))) := by
      unfold gN canPut
      rw [hE, if_pos rfl]
    have hw : wipeE (Lw.set j (.val (enc x))) [j] = Lw := by
      show (Lw.set j (.val (enc x))).set j .emp = Lw
      rw [List.set_set]
      refine List.ext_getElem? fun i => ?_
      by_cases e : j = i
      · subst e; rw [List.getElem?_set_self hj, hE]
      · rw [List.getElem?_set_ne e]
    rw [List.map_cons]
    unfold lcD
    rw [hg, Option.bind_some, ht x List.mem_cons_self, Option.bind_some]
    cases hf : f x with
    | false => rw [if_neg (by simp), hw, ih, List.filter_cons_of_neg (by rw [hf]; decide)]
    | true =>
      show ((elt (Lw.set j (.val (enc x)))).bind fun q => (lcD (gN j) tt elt [j] (xs.map enc) (wipeE q.2 [j])).map fun r => (q.1 :: r.1, r.2)) = _
      rw [he x List.mem_cons_self hf, Option.bind_some, hw, ih, List.filter_cons_of_pos hf]; rfl
theorem lc_mA {j : Nat} {Lw : Env} (hE : Lw[j]? = some .emp) (F : α → D) (xs : List α) (he : ∀ x ∈ xs, elt (Lw.set j (.val (enc x))) = some (F x, Lw.set j (.val (enc x)))) : lcD (gN j) etT elt [j] (xs.map enc) Lw = some (xs.map F, Lw) := by
  have := lc_fA (tt := etT) (enc := enc) hE (fun _ => true) F xs (fun _ _ => rfl) (fun x hx _ => he x hx)
  rw [this]
  congr 2
  exact congrArg (List.map F) (List.filter_eq_self.mpr fun _ _ => rfl)
/-- a while by a measure -/
theorem wh_pre {tc : ET} (I : Nat → Env → Prop) (R : Env → Prop) (st : ∀ n L, I n L → ∃ b L1, tc L = some (b, L1) ∧ (b = false → R L1) ∧ (b = true → ∃ m L2, body L1 = some (.nx L2) ∧ m < n ∧ I m L2)) : ∀ (n : Nat) (L : Env), I n L → ∃ L', sWh tc body L = some (.nx L') ∧ R L' := by
  have key : ∀ (k n : Nat) (L : Env), n ≤ k → I n L → ∃ L', whN tc body (k + 1) L = some (.nx L') ∧ R L' := by
    intro k
    induction k with
    | zero =>
      intro n L hn h
      obtain ⟨b, L1, h1, h2, h3⟩ := st n L h
      cases b with
      | false =>
        refine ⟨L1, ?_, h2 rfl⟩
        unfold whN
        rw [h1]; rfl
      | true =>
        obtain ⟨m, _, _, h4, _⟩ := h3 rfl
        omega
    | succ k ih =>
      intro n L hn h
      obtain ⟨b, L1, h1, h2, h3⟩ := st n L h
      cases b with
      | false =>
        refine ⟨L1, ?_, h2 rfl⟩
        unfold whN
        rw [h1]; rfl
      | true =>
        obtain ⟨m, L2, h4, h5, h6⟩ := h3 rfl
        obtain ⟨L', h7, h8⟩ := ih m L2 (by omega) h6
        refine ⟨L', ?_, h8⟩
        unfold whN
        rw [h1, Option.bind_some]
        show (body L1).bind _ = _
        rw [h4, Option.bind_some]
        exact h7
  intro n L h
  obtain ⟨L', h1, h2⟩ := key n n L (Nat.le_refl _) h
  exact ⟨L', sWh_of _ h1, h2⟩
end
end DD

end
section
set_option Elab.async false
set_option linter.all false
set_option maxRecDepth 100000
set_option maxHeartbeats 4000000
namespace DG
open PySem PySem.Spec PyProof.Rows L2 RZ DD
mutual
noncomputable def V__law_half : Nat → Fn
  | 0 => fun _ => none
  | m + 1 => fnD 1 1 (B__law_half (V__law_all m))
noncomputable def V__law_all : Nat → Fn
  | 0 => fun _ => none
  | m + 1 => fnD 1 1 (B__law_all (V__law_half m))
end
theorem V__law_half_s (m : Nat) : V__law_half (m + 1) = fnD 1 1 (B__law_half (V__law_all m)) := by rw [V__law_half]
theorem V__law_half_z : V__law_half 0 = fun _ => none := by rw [V__law_half]
theorem V__law_all_s (m : Nat) : V__law_all (m + 1) = fnD 1 1 (B__law_all (V__law_half m)) := by rw [V__law_all]
theorem V__law_all_z : V__law_all 0 = fun _ => none := by rw [V__law_all]
noncomputable def V__law_back : Nat → Fn
  | 0 => fun _ => none
  | m + 1 => fnD 1 1 (B__law_back (V__law_back m))
theorem V__law_back_s (m : Nat) : V__law_back (m + 1) = fnD 1 1 (B__law_back (V__law_back m)) := by rw [V__law_back]
theorem V__law_back_z : V__law_back 0 = fun _ => none := by rw [V__law_back]
noncomputable def V__law_news : Fn := fnD 3 1 (B__law_news)
noncomputable def V__law_stage : Fn := fnD 2 2 (B__law_stage V__law_news)
noncomputable def V__law_begins : Fn := fnD 5 2 (B__law_begins V__law_news (G_lform 9) V__law_stage)
noncomputable def V__law_book : Fn := fnD 6 2 (B__law_book G_take G_plan)
noncomputable def V__law_by_size : Fn := fnD 4 1 (B__law_by_size)
noncomputable def V__law_cells : Fn := fnD 6 2 (B__law_cells)
noncomputable def V__law_cuts : Fn := fnD 6 1 (B__law_cuts)
noncomputable def V__law_deed : Fn := fnD 3 2 (B__law_deed G_of G_plan)
noncomputable def V__law_full : Fn := fnD 5 3 (B__law_full G_pick G_plan)
noncomputable def V__law_golden : Fn := fnD 4 3 (B__law_golden)
noncomputable def V__law_or : Fn := fnD 5 2 (B__law_or)
noncomputable def V__law_grow : Fn := fnD 8 2 (B__law_grow G_take V__law_or)
noncomputable def V__law_halves : Fn := fnD 4 2 (B__law_halves (V__law_half 12))
noncomputable def V__law_in : Nat → Fn
  | 0 => fun _ => none
  | m + 1 => fnD 1 1 (B__law_in (V__law_in m))
theorem V__law_in_s (m : Nat) : V__law_in (m + 1) = fnD 1 1 (B__law_in (V__law_in m)) := by rw [V__law_in]
theorem V__law_in_z : V__law_in 0 = fun _ => none := by rw [V__law_in]
noncomputable def V__law_shorter : Fn := fnD 8 2 (B__law_shorter)
noncomputable def V__law_is_chain : Fn := fnD 5 3 (B__law_is_chain V__law_shorter)
noncomputable def V__law_lists : Nat → Fn
  | 0 => fun _ => none
  | m + 1 => fnD 2 1 (B__law_lists (V__law_lists m))
theorem V__law_lists_s (m : Nat) : V__law_lists (m + 1) = fnD 2 1 (B__law_lists (V__law_lists m)) := by rw [V__law_lists]
theorem V__law_lists_z : V__law_lists 0 = fun _ => none := by rw [V__law_lists]
noncomputable def V__law_long : Nat → Fn
  | 0 => fun _ => none
  | m + 1 => fnD 1 1 (B__law_long (V__law_long m))
theorem V__law_long_s (m : Nat) : V__law_long (m + 1) = fnD 1 1 (B__law_long (V__law_long m)) := by rw [V__law_long]
theorem V__law_long_z : V__law_long 0 = fun _ => none := by rw [V__law_long]
noncomputable def V__law_mate : Fn := fnD 6 2 (B__law_mate G_take G_plan)
noncomputable def V__law_named : Nat → Fn
  | 0 => fun _ => none
  | m + 1 => fnD 3 3 (B__law_named (V__law_named m))
theorem V__law_named_s (m : Nat) : V__law_named (m + 1) = fnD 3 3 (B__law_named (V__law_named m)) := by rw [V__law_named]
theorem V__law_named_z : V__law_named 0 = fun _ => none := by rw [V__law_named]
noncomputable def V__law_number : Nat → Fn
  | 0 => fun _ => none
  | m + 1 => fnD 5 1 (B__law_number (V__law_in 12) (V__law_all 12) (V__law_number m))
theorem V__law_number_s (m : Nat) : V__law_number (m + 1) = fnD 5 1 (B__law_number (V__law_in 12) (V__law_all 12) (V__law_number m)) := by rw [V__law_number]
theorem V__law_number_z : V__law_number 0 = fun _ => none := by rw [V__law_number]
noncomputable def V__law_ones : Fn := fnD 4 1 (B__law_ones)
noncomputable def V__law_part : Fn := fnD 3 2 (B__law_part)
noncomputable def V__law_power : Fn := fnD 4 2 (B__law_power)
noncomputable def V__law_put : Fn := fnD 3 3 (B__law_put)
noncomputable def V__law_question : Fn := fnD 3 2 (B__law_question G_take G_of)
noncomputable def V__law_reset : Fn := fnD 6 2 (B__law_reset G_take)
noncomputable def V__law_same_start : Fn := fnD 6 2 (B__law_same_start V__law_news V__law_stage (G_lform 9))
noncomputable def V__law_told : Nat → Fn
  | 0 => fun _ => none
  | m + 1 => fnD 3 2 (B__law_told (V__law_told m))
theorem V__law_told_s (m : Nat) : V__law_told (m + 1) = fnD 3 2 (B__law_told (V__law_told m)) := by rw [V__law_told]
theorem V__law_told_z : V__law_told 0 = fun _ => none := by rw [V__law_told]
noncomputable def V__wall : Fn := fnD 1 1 (B__wall)
noncomputable def V_check_piece : Fn := fnD 2 2 (B_check_piece)
noncomputable def V_forms_of : Fn := fnD 5 1 (B_forms_of G_form_of G_product)
noncomputable def V_form_in : Fn := fnD 2 2 (B_form_in V_check_piece V_forms_of)
noncomputable def V_alike_pieces : Fn := fnD 3 3 (B_alike_pieces V_form_in)
noncomputable def V_how_many_forms : Fn := fnD 3 1 (B_how_many_forms)
noncomputable def V_less : Fn := fnD 2 2 (B_less)
noncomputable def V_nth_form : Nat → Fn
  | 0 => fun _ => none
  | m + 1 => fnD 8 2 (B_nth_form V_how_many_forms V_less (V_nth_form m))
theorem V_nth_form_s (m : Nat) : V_nth_form (m + 1) = fnD 8 2 (B_nth_form V_how_many_forms V_less (V_nth_form m)) := by rw [V_nth_form]
theorem V_nth_form_z : V_nth_form 0 = fun _ => none := by rw [V_nth_form]
noncomputable def V_all_forms : Fn := fnD 2 1 (B_all_forms V_how_many_forms (V_nth_form 12))
noncomputable def V_all_sets : Fn := fnD 4 1 (B_all_sets)
noncomputable def V_part_of : Fn := fnD 3 2 (B_part_of G_last_new G_first_gone)
noncomputable def V_answer : Fn := fnD 3 2 (B_answer V_part_of G_letters_of G_last_new G_first_gone)
noncomputable def V_is_number : Fn := fnD 1 1 (B_is_number)
noncomputable def V_are_numbers : Fn := fnD 4 3 (B_are_numbers V_is_number)
noncomputable def V_chain_down : Nat → Fn
  | 0 => fun _ => none
  | m + 1 => fnD 12 1 (B_chain_down G_first_gone G_last_new (V_chain_down m))
theorem V_chain_down_s (m : Nat) : V_chain_down (m + 1) = fnD 12 1 (B_chain_down G_first_gone G_last_new (V_chain_down m)) := by rw [V_chain_down]
theorem V_chain_down_z : V_chain_down 0 = fun _ => none := by rw [V_chain_down]
noncomputable def V_chain_between : Fn := fnD 5 2 (B_chain_between G_alike (V_chain_down 12))
noncomputable def V_known_letters : Fn := fnD 3 1 (B_known_letters)
noncomputable def V_check_known : Fn := fnD 4 2 (B_check_known V_known_letters)
noncomputable def V_check_state : Fn := fnD 2 2 (B_check_state)
noncomputable def V_common : Fn := fnD 3 2 (B_common)
noncomputable def V_count_free : Fn := fnD 3 1 (B_count_free)
noncomputable def V_cut_to : Fn := fnD 6 5 (B_cut_to)
noncomputable def V_fact_of : Fn := fnD 2 2 (B_fact_of G_letters_of G_news G_gones G_form_of)
noncomputable def V_longs_of : Fn := fnD 4 1 (B_longs_of)
noncomputable def V_first_place : Fn := fnD 10 3 (B_first_place V_check_piece V_longs_of)
noncomputable def V_form_in_stretch : Nat → Fn
  | 0 => fun _ => none
  | m + 1 => fnD 14 5 (B_form_in_stretch G_form_of G_product (V_form_in_stretch m) V_cut_to)
theorem V_form_in_stretch_s (m : Nat) : V_form_in_stretch (m + 1) = fnD 14 5 (B_form_in_stretch G_form_of G_product (V_form_in_stretch m) V_cut_to) := by rw [V_form_in_stretch]
theorem V_form_in_stretch_z : V_form_in_stretch 0 = fun _ => none := by rw [V_form_in_stretch]
noncomputable def V_form_between : Fn := fnD 4 4 (B_form_between V_check_piece V_forms_of V_longs_of (V_form_in_stretch 115))
noncomputable def V_form_text : Nat → Fn
  | 0 => fun _ => none
  | m + 1 => fnD 1 1 (B_form_text (V_form_text m))
theorem V_form_text_s (m : Nat) : V_form_text (m + 1) = fnD 1 1 (B_form_text (V_form_text m)) := by rw [V_form_text]
theorem V_form_text_z : V_form_text 0 = fun _ => none := by rw [V_form_text]
noncomputable def V_halves : Nat → Fn
  | 0 => fun _ => none
  | m + 1 => fnD 1 1 (B_halves (V_halves m))
theorem V_halves_s (m : Nat) : V_halves (m + 1) = fnD 1 1 (B_halves (V_halves m)) := by rw [V_halves]
theorem V_halves_z : V_halves 0 = fun _ => none := by rw [V_halves]
noncomputable def V_how_many_among : Fn := fnD 4 1 (B_how_many_among V_how_many_forms)
noncomputable def V_stages : Fn := fnD 4 1 (B_stages G_form_of)
noncomputable def V_how_many_starts : Fn := fnD 2 1 (B_how_many_starts V_stages G_letters_in (V_halves 12))
noncomputable def V_how_many_stops : Fn := fnD 1 1 (B_how_many_stops V_how_many_starts)
noncomputable def V_how_often : Fn := fnD 6 3 (B_how_often V_check_piece)
noncomputable def V_is_shortening : Fn := fnD 6 2 (B_is_shortening V_common)
noncomputable def V_is_chain : Fn := fnD 5 3 (B_is_chain V_is_shortening)
noncomputable def V_is_form : Fn := fnD 1 1 (B_is_form (G_letters_by 10))
noncomputable def V_is_known : Fn := fnD 2 2 (B_is_known V_are_numbers)
noncomputable def V_rises : Fn := fnD 3 1 (B_rises)
noncomputable def V_is_machine : Fn := fnD 4 1 (B_is_machine V_is_number V_is_known V_rises)
noncomputable def V_is_plan : Fn := fnD 2 1 (B_is_plan)
noncomputable def V_is_middle : Fn := fnD 4 4 (B_is_middle V_is_plan G_form_of)
noncomputable def V_is_name : Fn := fnD 2 1 (B_is_name)
noncomputable def V_is_way : Fn := fnD 2 1 (B_is_way)
noncomputable def V_is_question : Fn := fnD 1 1 (B_is_question V_is_way)
noncomputable def V_is_parting : Fn := fnD 3 3 (B_is_parting V_is_question V_answer)
noncomputable def V_is_row : Fn := fnD 2 1 (B_is_row V_is_way)
noncomputable def V_last_place : Fn := fnD 10 3 (B_last_place V_check_piece V_longs_of)
noncomputable def V_stretch_in : Nat → Fn
  | 0 => fun _ => none
  | m + 1 => fnD 11 5 (B_stretch_in (V_stretch_in m) V_cut_to)
theorem V_stretch_in_s (m : Nat) : V_stretch_in (m + 1) = fnD 11 5 (B_stretch_in (V_stretch_in m) V_cut_to) := by rw [V_stretch_in]
theorem V_stretch_in_z : V_stretch_in 0 = fun _ => none := by rw [V_stretch_in]
noncomputable def V_stretch_of : Fn := fnD 4 4 (B_stretch_of V_check_piece V_longs_of (V_stretch_in 115))
noncomputable def V_letter_at : Fn := fnD 4 3 (B_letter_at V_check_piece V_stretch_of)
noncomputable def V_letters_at : Nat → Fn
  | 0 => fun _ => none
  | m + 1 => fnD 7 2 (B_letters_at (V_letters_at m) G_letters_of)
theorem V_letters_at_s (m : Nat) : V_letters_at (m + 1) = fnD 7 2 (B_letters_at (V_letters_at m) G_letters_of) := by rw [V_letters_at]
theorem V_letters_at_z : V_letters_at 0 = fun _ => none := by rw [V_letters_at]
noncomputable def V_letters_told : Nat → Fn
  | 0 => fun _ => none
  | m + 1 => fnD 1 1 (B_letters_told (V_letters_told m))
theorem V_letters_told_s (m : Nat) : V_letters_told (m + 1) = fnD 1 1 (B_letters_told (V_letters_told m)) := by rw [V_letters_told]
theorem V_letters_told_z : V_letters_told 0 = fun _ => none := by rw [V_letters_told]
noncomputable def V_long_of : Fn := fnD 2 2 (B_long_of V_check_piece V_longs_of)
noncomputable def V_middle : Fn := fnD 3 3 (B_middle G_holds G_form_of G_plan_of)
noncomputable def V_sets_of : Fn := fnD 4 1 (B_sets_of)
noncomputable def V_nth_among : Fn := fnD 5 2 (B_nth_among V_sets_of (V_nth_form 12) V_how_many_forms)
noncomputable def V_number_of : Nat → Fn
  | 0 => fun _ => none
  | m + 1 => fnD 9 1 (B_number_of (G_tupled 10) G_letters_in V_how_many_forms (V_number_of m))
theorem V_number_of_s (m : Nat) : V_number_of (m + 1) = fnD 9 1 (B_number_of (G_tupled 10) G_letters_in V_how_many_forms (V_number_of m)) := by rw [V_number_of]
theorem V_number_of_z : V_number_of 0 = fun _ => none := by rw [V_number_of]
noncomputable def V_number_among : Fn := fnD 6 2 (B_number_among (G_tupled 10) G_letters_in V_sets_of V_how_many_forms (V_number_of 12))
noncomputable def V_part_in : Nat → Fn
  | 0 => fun _ => none
  | m + 1 => fnD 6 2 (B_part_in (V_part_in m))
theorem V_part_in_s (m : Nat) : V_part_in (m + 1) = fnD 6 2 (B_part_in (V_part_in m)) := by rw [V_part_in]
theorem V_part_in_z : V_part_in 0 = fun _ => none := by rw [V_part_in]
noncomputable def V_plan_text : Fn := fnD 1 1 (B_plan_text)
noncomputable def V_read_form : Fn := fnD 3 1 (B_read_form (V_part_in 12) V_is_form)
noncomputable def V_read_plan : Fn := fnD 1 1 (B_read_plan V_is_plan)
noncomputable def V_set_order : Fn := fnD 1 1 (B_set_order)
noncomputable def V_sheet_text : Fn := fnD 3 1 (B_sheet_text V_plan_text)
noncomputable def V_shortenings : Fn := fnD 5 1 (B_shortenings V_is_shortening)
noncomputable def V_thinned : Fn := fnD 3 1 (B_thinned G_alike)
noncomputable def V_told_at : Nat → Fn
  | 0 => fun _ => none
  | m + 1 => fnD 4 2 (B_told_at (V_told_at m))
theorem V_told_at_s (m : Nat) : V_told_at (m + 1) = fnD 4 2 (B_told_at (V_told_at m)) := by rw [V_told_at]
theorem V_told_at_z : V_told_at 0 = fun _ => none := by rw [V_told_at]
noncomputable def V_undoubled : Fn := fnD 3 1 (B_undoubled)
noncomputable def V_ways_to : Fn := fnD 9 3 (B_ways_to)
noncomputable def V_yes_or_no : Fn := fnD 1 1 (B_yes_or_no)
end DG

end
section
set_option Elab.async false
set_option linter.all false
set_option maxRecDepth 100000
set_option maxHeartbeats 4000000
/-! LC: of all laws: cells; the end of a run, statement by statement. -/
namespace DG
open PySem PySem.Spec PyProof.Rows L2 RZ DD FM
open TL (joinL)
open Classical
theorem intAt {xs : List Int} {k : Nat} : (∃ x : Int, (if k < xs.length then atI (xs.map D.int) (k : Int) else some (.int 0)) = some (.int x)) := by
  by_cases h : k < xs.length
  · refine ⟨xs[k], ?_⟩
    rw [if_pos h, atI_nat (List.getElem?_eq_getElem (by simpa using h))]
    simp
  · exact ⟨0, by rw [if_neg h]⟩
theorem cell_body {ns : List Int} {j : Nat} {x : Int} {xs : List Int} {s3 s4 s5 : Slot} (hj : j < 1000) (h3 : ∀ c, s3 ≠ .par c) (h4 : ∀ c, s4 ≠ .par c) (h5 : ∀ c, s5 ≠ .par c) (hx : xs.length = 2) :
    ∃ (xs' : List Int) (s5' : Slot), xs'.length = 2 ∧ (∀ c, s5' ≠ .par c) ∧ (gU 2 (gCn (gN 3) (gCn (gN 4) gNl)) (.tup [.int (j : Nat), .int x]) [.val (.scr ns), .val (.int 2), .liv (.l (xs.map D.int)), s3, s4, s5]).bind (sSeq (sAs (gN 5) (eOp gMod (e1 gInt (sqL 3)) (eMv 1))) (sSeq (sPut 2 (eMv 5) (eOp gAdd (eIxN 2 (eMv 5)) (eOp gMul (eMv 4) (eOp gAdd (eMv 3) (eC (.int 2)))))) sNx)) = some (.nx [.val (.scr ns), .val (.int 2), .liv (.l (xs'.map D.int)), .val (.int (j : Nat)), .val (.int x), s5']) := by
  obtain ⟨a, b, rfl⟩ : ∃ a b, xs = [a, b] := by
    match xs, hx with
    | [a, b], _ => exact ⟨a, b, rfl⟩
  have m1 : ∀ i : Int, gMul (.int i) (.int ((j : Int) + 2)) = some (.int (i * ((j : Int) + 2))) := fun i => mulR (by omega)
  have d1 : gMod (.int (j : Int)) (.int 2) = some (.int ((j : Int) % 2)) := modP (by decide)
  have hm : (j : Int) % 2 = 0 ∨ (j : Int) % 2 = 1 := by omega
  have c3 : ∀ c, s3 = .par c → False := h3
  have c4 : ∀ c, s4 = .par c → False := h4
  have c5 : ∀ c, s5 = .par c → False := h5
  have p0 : ∀ v : Int, putC (.l [.int a, .int b]) (.int 0) (.int v) = some (.l [.int v, .int b]) := fun v => rfl
  have p1 : ∀ v : Int, putC (.l [.int a, .int b]) (.int 1) (.int v) = some (.l [.int a, .int v]) := fun v => rfl
  rcases hm with hm | hm
  · refine ⟨[a + x * ((j : Int) + 2), b], .val (.int 0), rfl, (fun c z => nomatch z), ?_⟩
    rw [hm] at d1
    cases s3 <;> cases s4 <;> cases s5 <;> first | exact absurd rfl (c3 _) | exact absurd rfl (c4 _) | exact absurd rfl (c5 _) | simp [d1, m1, p0]
  · refine ⟨[a, b + x * ((j : Int) + 2)], .val (.int 1), rfl, (fun c z => nomatch z), ?_⟩
    rw [hm] at d1
    cases s3 <;> cases s4 <;> cases s5 <;> first | exact absurd rfl (c3 _) | exact absurd rfl (c4 _) | exact absurd rfl (c5 _) | simp [d1, m1, p1]
abbrev cellB : SV := (sSeq (sAs (gN 5) (eOp gMod (e1 gInt (sqL 3)) (eMv 1))) (sSeq (sPut 2 (eMv 5) (eOp gAdd (eIxN 2 (eMv 5)) (eOp gMul (eMv 4) (eOp gAdd (eMv 3) (eC (.int 2)))))) sNx))
theorem cell_loop {ns : List Int} : ∀ (zs : List Int) (j : Nat) (xs : List Int) (s3 s4 s5 : Slot), j + zs.length < 1000 → (∀ c, s3 ≠ .par c) → (∀ c, s4 ≠ .par c) → (∀ c, s5 ≠ .par c) → xs.length = 2 →
    ∃ (xs' : List Int) (s3' s4' s5' : Slot), xs'.length = 2 ∧ forD (gU 2 (gCn (gN 3) (gCn (gN 4) gNl))) cellB (((zs.map D.int).zipIdx j).map fun p => D.tup [.int (p.2 : Nat), p.1]) [.val (.scr ns), .val (.int 2), .liv (.l (xs.map D.int)), s3, s4, s5] = some (.nx [.val (.scr ns), .val (.int 2), .liv (.l (xs'.map D.int)), s3', s4', s5'])
  | [], j, xs, s3, s4, s5, _, _, _, _, hx => ⟨xs, s3, s4, s5, hx, rfl⟩
  | z :: zs, j, xs, s3, s4, s5, hj, h3, h4, h5, hx => by
    have hj : j + (zs.length + 1) < 1000 := hj
    obtain ⟨xs1, t5, e1, e2, e3⟩ := cell_body (ns := ns) (j := j) (x := z) (by omega) h3 h4 h5 hx
    obtain ⟨xs', s3', s4', s5', g1, g2⟩ := cell_loop (ns := ns) zs (j + 1) xs1 (.val (.int (j : Nat))) (.val (.int z)) t5 (by omega) (fun _ z => nomatch z) (fun _ z => nomatch z) e2 e1
    refine ⟨xs', s3', s4', s5', g1, ?_⟩
    show ((gU 2 (gCn (gN 3) (gCn (gN 4) gNl))) (.tup [.int (j : Nat), .int z]) _).bind (fun L1 => (cellB L1).bind _) = _
    obtain ⟨L1, k1, k2⟩ := Option.bind_eq_some_iff.mp e3
    rw [k1]
    show (cellB L1).bind _ = _
    rw [show cellB L1 = _ from k2]
    exact g2
theorem cells_at {ns : List Int} (hl : ns.length ≤ 63) : ∃ xs : List Int, xs.length ≤ 2 ∧ V__law_cells [.v (.scr ns), .v (.int 2)] = some (.o (.l (xs.map .int)), []) := by
  have hc : ∀ lo hi, (cutL ns lo hi).length ≤ 63 := fun lo hi => Nat.le_trans (cutL_le _ _ _) hl
  match ns, hl with
  | [], _ => exact ⟨[0], by decide, by simp [V__law_cells, fnD, B__law_cells, startE, parIx, csAt, cutL, gSl, gList, itEn, eSl, pNo, pOf, forD, sFor]⟩
  | [a], _ => exact ⟨[a], by simp, by simp [V__law_cells, fnD, B__law_cells, startE, parIx, csAt, cutL, gSl, gList, itEn, eSl, pNo, pOf, forD, sFor, HT.sIx]⟩
  | a :: b :: r, _ =>
    obtain ⟨xs', s3', s4', s5', g1, g2⟩ := cell_loop (ns := a :: b :: r) (cutL (a :: b :: r) (some 2) (some 63)) 0 [a, b] .emp .emp .emp (by have := hc (some 2) (some 63); omega) (fun _ z => nomatch z) (fun _ z => nomatch z) (fun _ z => nomatch z) rfl
    refine ⟨xs', by omega, ?_⟩
    have e : cutL (a :: b :: r) none (some 2) = [a, b] := by
      unfold cutL
      simp [HT.sIx]
      done
    generalize hz : cutL (a :: b :: r) (some 2) (some 63) = Z at g2
    simp only [cellB, List.map_cons, List.map_nil] at g2
    simp [V__law_cells, fnD, B__law_cells, startE, parIx, csAt, gSl, gList, itEn, eSl, pNo, pOf, sFor, e, hz, g2]
/-! ### runs -/
/-- a block ends with a result, told by Q -/
def Ends (sv : SV) (L : DD.Env) (Q : Ret → DD.Env → Prop) : Prop := ∃ r L', sv L = some (.rt r L') ∧ Q r L'
theorem sq_nx {a b : SV} {L L' : DD.Env} (h : a L = some (.nx L')) : sSeq a b L = b L' := by
  show (a L).bind _ = _
  rw [h]; rfl
theorem sq_rt {a b : SV} {L L' : DD.Env} {r : Ret} (h : a L = some (.rt r L')) : sSeq a b L = some (.rt r L') := by
  show (a L).bind _ = _
  rw [h]; rfl
theorem en_nx {a b : SV} {L L' : DD.Env} {Q : Ret → DD.Env → Prop} (h : a L = some (.nx L')) (k : Ends b L' Q) : Ends (sSeq a b) L Q := by
  obtain ⟨r, L2, e, q⟩ := k
  exact ⟨r, L2, (sq_nx h).trans e, q⟩
theorem en_rt {a b : SV} {L L' : DD.Env} {r : Ret} {Q : Ret → DD.Env → Prop} (h : a L = some (.rt r L')) (q : Q r L') : Ends (sSeq a b) L Q := ⟨r, L', sq_rt h, q⟩
theorem nx_seq {a b : SV} {L L1 : DD.Env} {o : Out} (h : a L = some (.nx L1)) (k : b L1 = some o) : sSeq a b L = some o := (sq_nx h).trans k
theorem nx_if {tc : ET} {a b : SV} {L L1 : DD.Env} {o : Out} (h : tc L = some (true, L1)) (k : a L1 = some o) : sIf tc a b L = some o := by
  show (tc L).bind _ = _
  rw [h]; exact k
theorem nx_else {tc : ET} {a b : SV} {L L1 : DD.Env} {o : Out} (h : tc L = some (false, L1)) (k : b L1 = some o) : sIf tc a b L = some o := by
  show (tc L).bind _ = _
  rw [h]; exact k
/-- the law's own helper ends True, with the source of draws moved on -/
def Fine (M : Nat) : Ret → DD.Env → Prop := fun r L => r = .v (.bl true) ∧ ∃ c', slotC L 0 = some (.l c') ∧ Box c' M
theorem fine_at {n : Nat} {sv : SV} {c : List D} {M : Nat} (h : Ends sv (startE n [.c (.l c)]) (Fine M)) : ∃ c', fnD n 1 sv [.c (.l c)] = some (.v (.bl true), [.l c']) ∧ Box c' M := by
  obtain ⟨r, L, e, rfl, c', s, b⟩ := h
  refine ⟨c', ?_, b⟩
  unfold fnD
  rw [if_pos (show [DD.Arg.c (Cont.l c)].length = 1 from rfl), e]
  show ((slotC L 0).bind fun c => some [c]).map _ = _
  rw [s]; rfl
end DG

end
section
set_option Elab.async false
set_option linter.all false
set_option maxRecDepth 100000
set_option maxHeartbeats 1000000
/-! L4: draws, with the tight counts. -/
namespace DG
open PySem PySem.Spec PyProof.Rows L2 RZ DD FM
open TL (joinL)
open Classical
theorem pick_t {c : List D} {N : Nat} {xs : List D} {k : Int} (hB : Box c N) (hl : xs.length ≤ 10000) (hk : 0 ≤ k) (hN : N + xs.length < 2 ^ 40) : ∃ ys zs c', G_pick [.c (.l c), .v (.lst xs), .v (.int k)] = some (.o (.l ys), [.l c']) ∧ (ys ++ zs).Perm xs ∧ ys.length = min k.toNat xs.length ∧ Box c' (N + xs.length) := by
  have em : gMin2 (.int k) (.int ((xs.length : Nat) : Int)) = some (.int ((min k.toNat xs.length : Nat) : Int)) := by
    show some (D.int (if ((xs.length : Nat) : Int) < k then ((xs.length : Nat) : Int) else k)) = _
    congr 2
    split <;> omega
  have hm : min k.toNat xs.length ≤ xs.length := Nat.min_le_right _ _
  obtain ⟨pool', found', c', s5', g1, g2, g3, g4⟩ := pick_loop (d1 := .lst xs) (d2 := .int k) ((List.range (min k.toNat xs.length)).map fun (n : Nat) => D.int (0 + n)) xs [] c N .emp (fun _ z => nomatch z) hB (by rw [List.length_map, List.length_range]; have := Nat.min_le_right k.toNat xs.length; omega) (by rw [List.length_map, List.length_range]; exact hm) (by simp; omega)
  rw [List.length_map, List.length_range] at g3 g4
  refine ⟨found', pool', c', ?_, g2, by rw [g3]; simp, g4.mono (by omega)⟩
  have gl : gList (.l xs) = some (.l xs) := rfl
  have hb : ((min k.toNat xs.length : Nat) : Int) < 4611686018427387904 := by omega
  generalize min k.toNat xs.length = M at em g1 hb
  simp only [Int.zero_add] at g1
  simp [G_pick, fnD, B__law_pick, startE, parIx, csAt, gl, em, hb, g1]
theorem letters_t {c : List D} {N : Nat} {k : Int} (hB : Box c N) (hk : 0 ≤ k) (hN : N + 8 < 2 ^ 40) : ∃ w c', G_letters [.c (.l c), .v (.int k)] = some (.v (.str w), [.l c']) ∧ Okw w ∧ w.Nodup ∧ w.length ≤ 8 ∧ w.length = min k.toNat 8 ∧ Box c' (N + 8) := by
  obtain ⟨ys, zs, c', h1, h2, h3, h4⟩ := pick_t (xs := alp.map sgn) hB (by decide) hk (by simpa using hN)
  obtain ⟨cs, rfl, h5, h6⟩ := picked alp_nodup h2
  obtain ⟨ws, e, hp⟩ := sort_map cs
  have hlen : cs.length ≤ 8 := by
    rw [List.length_map, List.length_map] at h3
    rw [h3]; exact Nat.min_le_right _ _
  have hwl : ws.length ≤ 8 := by rw [hp.length_eq]; exact hlen
  have ok : Okw ws := fun x hx => by
    have : x ∈ alp := h5 x (hp.mem_iff.mp hx)
    have : x = 97 ∨ x = 98 ∨ x = 99 ∨ x = 100 ∨ x = 101 ∨ x = 102 ∨ x = 103 ∨ x = 104 := by simpa [alp] using this
    omega
  refine ⟨ws, c', ?_, ok, hp.symm.nodup h6, hwl, by rw [hp.length_eq]; rw [List.length_map, List.length_map] at h3; exact h3, by simpa using h4⟩
  have gl : gList (.s [97, 98, 99, 100, 101, 102, 103, 104]) = some (.l (alp.map sgn)) := rfl
  have gs : gSort (.l (cs.map sgn)) = some (.l (ws.map sgn)) := by
    have es : cs.map sgn = (cs.map fun c => [c]).map D.str := by rw [List.map_map]; rfl
    show (strsOf (cs.map sgn)).bind _ = _
    rw [es, strsOf_map, Option.bind_some, if_pos (by rw [List.length_map]; omega), e, List.map_map]; rfl
  have gj : gJoin [] (.l (ws.map sgn)) = some (.str ws) := join_chars (by omega)
  clear h2 h3
  generalize alp.map sgn = X at gl h1
  simp [G_letters, fnD, B__law_letters, startE, parIx, csAt, gl, h1, gs, gj]

theorem plan_t {c : List D} {N : Nat} {ls : List Nat} {k : Int} (hB : Box c N) (hl : ls.length ≤ 1000) (hk : 0 ≤ k) (hk2 : k ≤ 1000) (hN : N + k.toNat + 1 < 2 ^ 40) : ∃ w c', G_plan [.c (.l c), .v (.str ls), .v (.int k)] = some (.v (.str w), [.l c']) ∧ (∀ x ∈ w, x ∈ ls) ∧ w.length ≤ k.toNat ∧ Box c' (N + k.toNat + 1) := by
  by_cases h0 : ls = []
  · subst h0
    refine ⟨[], c, ?_, (fun x h => nomatch h), Nat.zero_le _, hB.mono (by omega)⟩
    simp [G_plan, fnD, B__law_plan, startE, parIx, csAt]
  · obtain ⟨v, c', h1, h2, h3, h4⟩ := take_at (n := k + 1) hB (by omega) (by omega) (by omega)
    obtain ⟨ws, c2, g1, g2, g3, g4⟩ := plan_loop (d2 := .int k) h0 hl ((List.range v.toNat).map fun (n : Nat) => D.int (0 + n)) c' (N + 1) h2 (by rw [List.length_map, List.length_range]; omega)
    rw [List.length_map, List.length_range] at g3 g4
    refine ⟨ws, c2, ?_, g2, by omega, g4.mono (by omega)⟩
    have hb : -4611686018427387904 ≤ v ∧ v < 4611686018427387904 := by omega
    have gj : gJoin [] (.l (ws.map sgn)) = some (.str ws) := join_chars (by omega)
    have hv : v.toNat ≤ 100000 := by omega
    simp only [Int.zero_add] at g1
    simp [G_plan, fnD, B__law_plan, startE, parIx, csAt, h0, h1, hb, g1, gj, hv, noPar]

end DG

end
section
set_option Elab.async false
set_option linter.all false
set_option maxRecDepth 100000
set_option maxHeartbeats 1000000
/-! LH: promises at plans of a .. h; renamings by drawn orders. -/
namespace DG
open PySem PySem.Spec PyProof.Rows L2 RZ DD FM
open TL (joinL)
open Classical
/-! ### promises at plans of a .. h -/
structure Wd (n : Nat) (w : List Nat) : Prop where
  ok : Okw w
  len : w.length ≤ n
theorem Wd.app {n m : Nat} {u v : List Nat} (h : Wd n u) (h' : Wd m v) : Wd (n + m) (u ++ v) := ⟨h.ok.app h'.ok, by rw [List.length_append]; have := h.len; have := h'.len; omega⟩
theorem Wd.rev {n : Nat} {u : List Nat} (h : Wd n u) : Wd n u.reverse := ⟨h.ok.rev, by rw [List.length_reverse]; exact h.len⟩
theorem Wd.del {n : Nat} {u : List Nat} (h : Wd n u) (ls : List Nat) : Wd n (del ls u) := ⟨h.ok.filt _, Nat.le_trans (List.length_filter_le _ _) h.len⟩
theorem Wd.mono {n m : Nat} {u : List Nat} (h : Wd n u) (hm : n ≤ m) : Wd m u := ⟨h.ok, Nat.le_trans h.len hm⟩
section
variable {n m k : Nat} {u v w s t ls : List Nat}
theorem a_form (h : Wd n u) (hn : n ≤ 100000) : G_form_of [.v (.str u)] = some (.v (toD (form u)), []) := G_form_of_ok h.ok (Nat.le_trans h.len hn)
theorem del_plan (ls u : List Nat) : form (del ls (plan (form u))) = form (del ls u) := form_filter _ (form_plan u)
theorem a_without (h : Okw u) : G_form_without [.v (toD (form u)), .v (.str ls)] = some (.v (toD (form (del ls u))), []) := by
  have hf := Okw.fok h
  have hd := hf.dep
  have := fnFS_at (P := fun f ls => dep f ≤ 14 ∧ Small (del ls (plan f))) (g := fun f ls => toD (form (del ls (plan f)))) (f := form u) (w := ls) ⟨by omega, ((hf.okw).filt _).small (Nat.le_trans (List.length_filter_le _ _) (by have := hf.len; omega))⟩
  rw [del_plan] at this
  exact this
theorem a_product (h : Okw u) (h' : Okw v) : G_product [.v (toD (form u)), .v (toD (form v))] = some (.v (toD (form (u ++ v))), []) := by
  have := G_product_at h.fok h'.fok
  rwa [prod_form] at this
theorem a_back (h : Okw u) : G_form_back [.v (toD (form u))] = some (.v (toD (form u.reverse)), []) := by
  have hf := Okw.fok h
  have hd := hf.dep
  have := fnF_at (P := fun f => dep f ≤ 14 ∧ Small (plan f).reverse) (g := fun f => toD (form (plan f).reverse)) (f := form u) ⟨by omega, hf.okw.rev.small (by rw [List.length_reverse]; have := hf.len; omega)⟩
  rw [form_rev_iff.mp (form_plan u)] at this
  exact this
theorem a_letters (h : Okw u) : G_letters_in [.v (toD (form u))] = some (.v (.str (ltS u)), []) := by
  have hf := Okw.fok h
  have := fnF_at (P := fun f => dep f ≤ 8 ∧ Fok f) (g := fun f => .str (ltS (plan f))) (f := form u) ⟨hf.dep, hf⟩
  rw [ltS_of (u := plan (form u)) (v := u) fun c => mem_plan] at this
  exact this
theorem a_left (h : Wd n u) (hn : n ≤ 100000) : G_left [.v (.str u), .v (.str ls)] = some (.v (.str (del ls u)), []) := left_at (Nat.le_trans h.len hn)
theorem a_lform (h : Wd n u) (hn : n ≤ 1000) : G_lform 9 [.v (.str u)] = some (.v (toD (form u)), []) := lform_at (Nat.le_trans h.len hn) (by have := h.ok.dep; omega)
theorem a_alike (h : Wd n u) (h' : Wd m v) (hn : n ≤ 100000) (hm : m ≤ 100000) : G_alike [.v (.str u), .v (.str v)] = some (.v (.bl (decide (form u = form v))), []) := by
  show ((if _ then some _ else none).map _) = _
  rw [if_pos ⟨h.ok.small (Nat.le_trans h.len hn), h'.ok.small (Nat.le_trans h'.len hm), h.ok.chr, h'.ok.chr⟩]; rfl
theorem a_begins (h : Wd n w) (h' : Wd m s) (hn : n + m ≤ 100000) : G_begins [.v (.str w), .v (.str s)] = some (.v (.bl (decide (form (s ++ w) = form w))), []) := by
  show ((if _ then some _ else none).map _) = _
  rw [if_pos ⟨(h'.app h).ok.small (Nat.le_trans (h'.app h).len (by omega)), h.ok.small (Nat.le_trans h.len (by omega)), h'.ok.chr, h.ok.chr⟩]; rfl
theorem a_stops (h : Wd n w) (h' : Wd m s) (hn : n + m ≤ 100000) : G_stops [.v (.str w), .v (.str s)] = some (.v (.bl (decide (form (w ++ s) = form w))), []) := by
  show ((if _ then some _ else none).map _) = _
  rw [if_pos ⟨(h.app h').ok.small (Nat.le_trans (h.app h').len (by omega)), h.ok.small (Nat.le_trans h.len (by omega)), h'.ok.chr, h.ok.chr⟩]; rfl
theorem a_holds (h : Wd n w) (h' : Wd m s) (h'' : Wd k t) (hn : n + m + k ≤ 100000) : G_holds [.v (.str w), .v (.str s), .v (.str t)] = some (.v (.bl (decide (form (s ++ w ++ t) = form w))), []) := by
  show ((if _ then some _ else none).map _) = _
  rw [if_pos ⟨((h'.app h).app h'').ok.small (Nat.le_trans ((h'.app h).app h'').len (by omega)), h.ok.small (Nat.le_trans h.len (by omega)), h'.ok.chr, h.ok.chr, h''.ok.chr⟩]; rfl
theorem a_swallows (h : Wd n w) (h' : Wd m s) (hn : n + m + n ≤ 100000) : G_swallows [.v (.str w), .v (.str s)] = some (.v (.bl (decide (form (w ++ s ++ w) = form w))), []) := by
  show ((if _ then some _ else none).map _) = _
  rw [if_pos ⟨((h.app h').app h).ok.small (Nat.le_trans ((h.app h').app h).len (by omega)), h.ok.small (Nat.le_trans h.len (by omega)), h'.ok.chr, h.ok.chr⟩]; rfl
theorem sok_f (h : Okw u) : sok 10 (toD (form u)) := sok_form 9 (by have := h.dep; omega)
theorem sok_up : ∀ (m : Nat) {d : D}, sok m d → sok (m + 1) d
  | 0, d, h => h.elim
  | m + 1, .lst xs, h => ⟨h.1, fun x hx => sok_up m (h.2 x hx)⟩
  | m + 1, .tup xs, h => ⟨h.1, fun x hx => sok_up m (h.2 x hx)⟩
  | m + 1, .scr _, h => h.elim
  | m + 1, .non, _ => trivial
  | m + 1, .bl _, _ => trivial
  | m + 1, .int _, _ => trivial
  | m + 1, .str _, _ => trivial
theorem same_l {xs : List D} (hl : xs.length ≤ 1000) (h : ∀ x ∈ xs, sok 10 x) : G_same 12 [.v (.lst xs), .v (.lst xs)] = some (.v (.bl true), []) := same_at (m := 12) ⟨hl, fun x hx => sok_up 10 (h x hx)⟩
theorem same_f (h : Okw u) : G_same 12 [.v (toD (form u)), .v (toD (form u))] = some (.v (.bl true), []) := same_at (sok_up 11 (sok_up 10 (sok_f h)))
theorem del_app (ls u v : List Nat) : del ls (u ++ v) = del ls u ++ del ls v := List.filter_append ..
theorem del_rev (ls u : List Nat) : del ls u.reverse = (del ls u).reverse := List.filter_reverse ..
theorem del_form (ls : List Nat) {u v : List Nat} (h : form u = form v) : form (del ls u) = form (del ls v) := form_filter _ h
end
theorem alp_of {x : Nat} (h : 97 ≤ x ∧ x ≤ 104) : x ∈ alp := alph h
theorem of_alp {x : Nat} (h : x ∈ alp) : 97 ≤ x ∧ x ≤ 104 := by
  have : x = 97 ∨ x = 98 ∨ x = 99 ∨ x = 100 ∨ x = 101 ∨ x = 102 ∨ x = 103 ∨ x = 104 := by simpa [alp] using h
  omega
theorem names_ok {a : List Nat} (h : a.Perm alp) : Names alp a := by
  have hl : a.length = 8 := h.length_eq
  have p := perm_of (u := a) (v := alp) fun c => h.mem_iff
  have e : (dedup (chars alp)).length = 8 := by decide +kernel
  exact ⟨hl.symm, by decide, e, by rw [p.length_eq, e, hl]⟩
theorem rnm_at {a : List Nat} (h : a.Perm alp) {x : Nat} (hx : x ∈ alp) : ∃ i, fst1 x alp = some i ∧ ∃ hi : i < a.length, rnm alp a x = a[i] := by
  cases hi : fst1 x alp with
  | none => exact absurd hx (fst1_none.mp hi)
  | some i =>
    have hib : i < alp.length := (List.getElem?_eq_some_iff.mp (fst1_some.mp hi).1).1
    have hia : i < a.length := by rw [h.length_eq]; exact hib
    refine ⟨i, rfl, hia, ?_⟩
    unfold rnm
    rw [hi]
    show a.getD i 0 = _
    rw [List.getD_eq_getElem?_getD, List.getElem?_eq_getElem hia]; rfl
theorem rnm_inj {a : List Nat} (h : a.Perm alp) {x y : Nat} (hx : x ∈ alp) (hy : y ∈ alp) (e : rnm alp a x = rnm alp a y) : x = y := by
  obtain ⟨i, h1, hi, e1⟩ := rnm_at h hx
  obtain ⟨j, h2, hj, e2⟩ := rnm_at h hy
  rw [e1, e2] at e
  have nd : a.Nodup := h.symm.nodup alp_nodup
  have : i = j := by
    have pw := List.pairwise_iff_getElem.mp nd
    rcases Nat.lt_trichotomy i j with hlt | heq | hgt
    · exact absurd e (pw i j hi hj hlt)
    · exact heq
    · exact absurd e.symm (pw j i hj hi hgt)
  subst this
  have p1 := (fst1_some.mp h1).1
  have p2 := (fst1_some.mp h2).1
  rw [p1] at p2
  exact Option.some.inj p2
theorem rnm_ok {a : List Nat} (h : a.Perm alp) {w : List Nat} (hw : Okw w) : Okw (w.map (rnm alp a)) := fun c hc => by
  obtain ⟨x, hx, rfl⟩ := List.mem_map.mp hc
  obtain ⟨i, _, hi, e⟩ := rnm_at h (alp_of (hw x hx))
  rw [e]
  exact of_alp (h.mem_iff.mp (List.getElem_mem hi))
theorem map_form {a : List Nat} (h : a.Perm alp) {w : List Nat} (hw : Okw w) : form (w.map (rnm alp a)) = mapF (rnm alp a) (form w) := form_map fun x hx y hy e => rnm_inj h (alp_of (hw x hx)) (alp_of (hw y hy)) e
theorem a_renamed {a u : List Nat} (h : a.Perm alp) (hu : Okw u) : G_form_renamed [.v (toD (form u)), .v (.str alp), .v (.str a)] = some (.v (toD (form (u.map (rnm alp a)))), []) := by
  have hf := Okw.fok hu
  have hd := hf.dep
  have := fnFSS_at (P := fun f b a => dep f ≤ 14 ∧ Names b a ∧ (∀ c ∈ plan f, c ∈ b) ∧ Small ((plan f).map (rnm b a))) (g := fun f b a => toD (form ((plan f).map (rnm b a)))) (f := form u) (w := alp) (u := a)
    ⟨by omega, names_ok h, fun c hc => alp_of (hf.okw c hc), (rnm_ok h hf.okw).small (by rw [List.length_map]; have := hf.len; omega)⟩
  rw [map_form h hf.okw, form_plan, ← map_form h hu] at this
  exact this
theorem del_map {a gs u : List Nat} (h : a.Perm alp) (hg : Okw gs) (hu : Okw u) : del (gs.map (rnm alp a)) (u.map (rnm alp a)) = (del gs u).map (rnm alp a) := by
  unfold del
  rw [List.filter_map]
  congr 1
  refine List.filter_congr fun x hx => ?_
  show (!decide (rnm alp a x ∈ gs.map (rnm alp a))) = !decide (x ∈ gs)
  congr 1
  refine decide_eq_decide.mpr ⟨fun hm => ?_, fun hm => List.mem_map.mpr ⟨x, hm, rfl⟩⟩
  obtain ⟨y, hy, e⟩ := List.mem_map.mp hm
  rw [← rnm_inj h (alp_of (hg y hy)) (alp_of (hu x hx)) e]; exact hy
theorem order_at {c : List D} {N : Nat} (hB : Box c N) (hN : N + 8 < 2 ^ 40) : ∃ cs c', cs.Perm alp ∧ Box c' (N + 8) ∧ G_pick [.c (.l c), .v (.lst (alp.map sgn)), .v (.int 8)] = some (.o (.l (cs.map sgn)), [.l c']) ∧ gJoin [] (.l (cs.map sgn)) = some (.str cs) := by
  obtain ⟨ys, zs, c', h1, h2, h3, h4⟩ := pick_t (xs := alp.map sgn) (k := 8) hB (by decide) (by decide) (by simpa using hN)
  obtain ⟨cs, rfl, h5, h6⟩ := picked alp_nodup h2
  have hz : zs = [] := by
    have := h2.length_eq
    rw [List.length_append, h3] at this
    have e : (alp.map sgn).length = 8 := rfl
    rw [e] at this
    exact List.eq_nil_of_length_eq_zero (by omega)
  subst hz
  rw [List.append_nil] at h2
  have hp : cs.Perm alp := by
    rw [List.perm_ext_iff_of_nodup h6 alp_nodup]
    refine fun x => ⟨h5 x, fun hx => ?_⟩
    have := h2.mem_iff.mpr (List.mem_map.mpr ⟨x, hx, rfl⟩)
    obtain ⟨y, hy, e⟩ := List.mem_map.mp this
    rw [← sgn_inj e]; exact hy
  exact ⟨cs, c', hp, by simpa using h4, h1, join_chars (by rw [hp.length_eq]; decide)⟩
theorem a_ren {a u : List Nat} (h : a.Perm alp) (hu : Okw u) (hl : u.length ≤ 100000) : G_renamed [.v (.str u), .v (.str alp), .v (.str a)] = some (.v (.str (u.map (rnm alp a))), []) := by
  show ((if _ then some _ else none).map _) = _
  rw [if_pos ⟨names_ok h, fun c hc => alp_of (hu c hc), hl⟩]; rfl
theorem gSubI (i j : Int) : gSub (.int i) (.int j) = some (.int (i - j)) := rfl
@[simp] theorem countS {l : List Nat} {c : Nat} : gCount l (.s [c]) = some (.int ((l.count c : Nat) : Int)) := rfl
/-- equal answers are told the same -/
theorem same_d {d d' : D} (e : d = d') (h : sok 12 d) : G_same 12 [.v d, .v d'] = some (.v (.bl true), []) := by subst e; exact same_at h
@[simp] theorem sok_lst {m : Nat} {xs : List D} : sok (m + 1) (.lst xs) ↔ xs.length ≤ 1000 ∧ ∀ x ∈ xs, sok m x := Iff.rfl
@[simp] theorem sok_tup {m : Nat} {xs : List D} : sok (m + 1) (.tup xs) ↔ xs.length ≤ 1000 ∧ ∀ x ∈ xs, sok m x := Iff.rfl
@[simp] theorem sok_int {m : Nat} {i : Int} : sok (m + 1) (.int i) := trivial
@[simp] theorem sok_bl {m : Nat} {i : Bool} : sok (m + 1) (.bl i) := trivial
@[simp] theorem sok_str {m : Nat} {i : List Nat} : sok (m + 1) (.str i) := trivial
@[simp] theorem sok_non {m : Nat} : sok (m + 1) .non := trivial
theorem sok_ge {m n : Nat} {d : D} (h : sok m d) (hm : m ≤ n) : sok n d := by
  induction hm with
  | refl => exact h
  | step _ ih => exact sok_up _ ih
theorem sok_fm {u : List Nat} (h : Okw u) {m : Nat} (hm : 10 ≤ m) : sok m (toD (form u)) := sok_ge (sok_f h) hm
end DG

end
section
set_option Elab.async false
set_option linter.all false
set_option maxRecDepth 100000
set_option maxHeartbeats 1000000
/-! SB: what the defs of books.py compute, of books of lists and of tuples. -/
namespace DG
open PySem PySem.Spec PyProof.Rows L2 RZ DD FM
open TL (joinL)
open Classical
def sqD (s : Bool) (xs : List D) : D := if s then .lst xs else .tup xs
@[simp] theorem sqD_t (xs : List D) : sqD true xs = .lst xs := rfl
@[simp] theorem sqD_f (xs : List D) : sqD false xs = .tup xs := rfl
@[simp] theorem items_sq (s : Bool) (xs : List D) : itemsD (sqD s xs) = some xs := by cases s <;> rfl
def pcE (s : Bool) (p : List Pt) : D := sqD s (p.map ptD)
def bkE (s : Bool) (b : List (List Pt)) : D := sqD s (b.map (pcE s))
@[simp] theorem items_pc (s : Bool) (p : List Pt) : itemsD (pcE s p) = some (p.map ptD) := items_sq _ _
@[simp] theorem items_bk (s : Bool) (b : List (List Pt)) : itemsD (bkE s b) = some (b.map (pcE s)) := items_sq _ _
/-! ### what is told -/
def ptT (T : List (List Nat)) : Pt → List Nat
  | .t w => w
  | .i k => T.getD k []
def pcT (T : List (List Nat)) (p : List Pt) : List Nat := (p.map (ptT T)).flatten
def bkT : List (List Pt) → List (List Nat) → List (List Nat)
  | [], T => T
  | p :: r, T => bkT r (T ++ [pcT T p])
def tolds (b : List (List Pt)) : List (List Nat) := bkT b []
def told (b : List (List Pt)) (k : Nat) : List Nat := (tolds b).getD k []
theorem bkT_app : ∀ (b c : List (List Pt)) (T : List (List Nat)), bkT (b ++ c) T = bkT c (bkT b T)
  | [], c, T => rfl
  | p :: r, c, T => bkT_app r c (T ++ [pcT T p])
theorem bkT_len : ∀ (b : List (List Pt)) (T : List (List Nat)), (bkT b T).length = T.length + b.length
  | [], T => rfl
  | p :: r, T => by
    show (bkT r (T ++ [pcT T p])).length = _
    rw [bkT_len r, List.length_append, List.length_cons]; simp; omega
theorem bkT_get : ∀ (b : List (List Pt)) (T : List (List Nat)) (k : Nat), k < T.length → (bkT b T)[k]? = T[k]?
  | [], T, k, _ => rfl
  | p :: r, T, k, h => by
    show (bkT r (T ++ [pcT T p]))[k]? = _
    rw [bkT_get r _ k (by rw [List.length_append]; omega), List.getElem?_append_left h]
theorem tolds_len (b : List (List Pt)) : (tolds b).length = b.length := by unfold tolds; rw [bkT_len]; simp
theorem tolds_app (b c : List (List Pt)) {k : Nat} (h : k < b.length) : told (b ++ c) k = told b k := by
  unfold told tolds
  rw [bkT_app, List.getD_eq_getElem?_getD, bkT_get _ _ _ (by rw [bkT_len]; simpa using h), List.getD_eq_getElem?_getD]
theorem told_snoc (b : List (List Pt)) (p : List Pt) : told (b ++ [p]) b.length = pcT (tolds b) p := by
  unfold told tolds
  rw [bkT_app]
  show (bkT b [] ++ [pcT (bkT b []) p]).getD _ _ = _
  rw [List.getD_eq_getElem?_getD, List.getElem?_append_right (by rw [bkT_len]; simp), bkT_len]
  simp
theorem tolds_snoc (b : List (List Pt)) (p : List Pt) : tolds (b ++ [p]) = tolds b ++ [pcT (tolds b) p] := by
  unfold tolds
  rw [bkT_app]; rfl
theorem told_take {b : List (List Pt)} {k : Nat} (h : k < b.length) : told (b.take (k + 1)) k = told b k := by
  have e := tolds_app (b.take (k + 1)) (b.drop (k + 1)) (k := k) (by rw [List.length_take]; omega)
  rw [List.take_append_drop] at e
  exact e.symm
/-- the piece k by those ahead -/
theorem told_at {b : List (List Pt)} {k : Nat} {p : List Pt} (h : b[k]? = some p) : told b k = pcT (tolds (b.take k)) p := by
  have hk : k < b.length := (List.getElem?_eq_some_iff.mp h).1
  have e : b.take (k + 1) = b.take k ++ [p] := by rw [List.take_succ, h]; rfl
  have l : (b.take k).length = k := by rw [List.length_take]; omega
  rw [← told_take hk, e]
  have := told_snoc (b.take k) p
  rw [l] at this
  exact this
theorem ptT_take {b : List (List Pt)} {k : Nat} {x : Pt} (hk : k ≤ b.length) (h : PtOk k x) : ptT (tolds (b.take k)) x = ptT (tolds b) x := by
  cases x with
  | t w => rfl
  | i j =>
    have hj : j < k := h
    have e := tolds_app (b.take k) (b.drop k) (k := j) (by rw [List.length_take]; omega)
    rw [List.take_append_drop] at e
    exact e.symm
theorem BkOk_at : ∀ {b : List (List Pt)} {n k : Nat} {p : List Pt}, BkOk b n → b[k]? = some p → ∀ x ∈ p, PtOk (n + k) x
  | [], _, _, _, _, h => by simp at h
  | q :: r, n, 0, p, hb, h => by
    have : q = p := by simpa using h
    subst this
    exact hb.1
  | q :: r, n, k + 1, p, hb, h => by
    have := BkOk_at (b := r) (n := n + 1) (k := k) hb.2 (by simpa using h)
    intro x hx
    have z := this x hx
    rwa [Nat.add_assoc, Nat.add_comm 1 k] at z
theorem told_pc {b : List (List Pt)} {k : Nat} {p : List Pt} (hb : BkOk b 0) (h : b[k]? = some p) : told b k = pcT (tolds b) p := by
  have hk : k < b.length := (List.getElem?_eq_some_iff.mp h).1
  rw [told_at h]
  unfold pcT
  congr 1
  refine List.map_congr_left fun x hx => ptT_take (by omega) ?_
  have := BkOk_at hb h x hx
  rwa [Nat.zero_add] at this
theorem BkOk_app : ∀ {b c : List (List Pt)} {n : Nat}, BkOk (b ++ c) n ↔ BkOk b n ∧ BkOk c (n + b.length)
  | [], c, n => by simp [BkOk]
  | p :: r, c, n => by
    show (_ ∧ BkOk (r ++ c) (n + 1)) ↔ (_ ∧ BkOk r (n + 1)) ∧ _
    rw [BkOk_app, List.length_cons, and_assoc, show n + 1 + r.length = n + (r.length + 1) by omega]
theorem BkOk_take {b : List (List Pt)} {n k : Nat} (h : BkOk b n) : BkOk (b.take k) n := by
  have e := List.take_append_drop k b
  rw [← e, BkOk_app] at h
  exact h.1
theorem pcT_ok {T : List (List Nat)} {p : List Pt} (hT : ∀ w ∈ T, Okw w) (h : ∀ x ∈ p, PtOk T.length x) : Okw (pcT T p) := by
  intro c hc
  unfold pcT at hc
  rw [List.mem_flatten] at hc
  obtain ⟨w, hw, hc⟩ := hc
  obtain ⟨x, hx, rfl⟩ := List.mem_map.mp hw
  have := h x hx
  cases x with
  | t w => exact this.1 c hc
  | i j =>
    have hj : j < T.length := this
    refine hT _ ?_ c hc
    show T.getD j [] ∈ T
    rw [List.getD_eq_getElem?_getD, List.getElem?_eq_getElem hj]
    exact List.getElem_mem hj
theorem bkT_ok : ∀ (b : List (List Pt)) (T : List (List Nat)), BkOk b T.length → (∀ w ∈ T, Okw w) → ∀ w ∈ bkT b T, Okw w
  | [], T, _, h => h
  | p :: r, T, hb, h => by
    refine bkT_ok r (T ++ [pcT T p]) (by rw [List.length_append]; exact hb.2) fun w hw => ?_
    rcases List.mem_append.mp hw with z | z
    · exact h w z
    · rw [List.mem_singleton] at z; subst z; exact pcT_ok h hb.1
theorem tolds_ok {b : List (List Pt)} (h : BkOk b 0) : ∀ w ∈ tolds b, Okw w := bkT_ok b [] h fun w h => nomatch h
theorem told_ok {b : List (List Pt)} (h : BkOk b 0) (k : Nat) : Okw (told b k) := by
  unfold told
  rw [List.getD_eq_getElem?_getD]
  cases e : (tolds b)[k]? with
  | none => exact fun c hc => nomatch hc
  | some w => exact tolds_ok h w (List.mem_of_getElem? e)
theorem pcF_form (T : List (List Nat)) : ∀ (p : List Pt) (u : List Nat), p.foldl (fun f x => prodF f (ptF (T.map form) x)) (form u) = form (u ++ pcT T p)
  | [], u => by simp [pcT]
  | x :: r, u => by
    have e : ptF (T.map form) x = form (ptT T x) := by
      cases x with
      | t w => rfl
      | i j =>
        show (T.map form).getD j .e = form (T.getD j [])
        rw [List.getD_eq_getElem?_getD, List.getD_eq_getElem?_getD, List.getElem?_map]
        cases T[j]? with
        | none => exact form_nil.symm
        | some w => rfl
    rw [List.foldl_cons, e, prod_form, pcF_form T r]
    simp [pcT]
theorem bkF_form : ∀ (b : List (List Pt)) (T : List (List Nat)), bkF b (T.map form) = (bkT b T).map form
  | [], T => rfl
  | p :: r, T => by
    show bkF r (T.map form ++ [pcF (T.map form) p]) = (bkT r (T ++ [pcT T p])).map form
    have := pcF_form T p []
    rw [form_nil, List.nil_append] at this
    rw [show pcF (T.map form) p = form (pcT T p) from this, ← bkF_form r, List.map_append]; rfl

/-! ### longs_of, long_of, how_often -/
def lenD (w : List Nat) : D := .int ((w.length : Nat) : Int)
theorem ix_map {α : Type} (F : α → D) (T : List α) {k : Nat} {d : α} (h : k < T.length) : atI (T.map F) (k : Int) = some (F (T.getD k d)) := by
  refine atI_nat ?_
  rw [List.getElem?_map, List.getElem?_eq_getElem h, List.getD_eq_getElem?_getD, List.getElem?_eq_getElem h]; rfl
theorem sum_lens (f : List Nat → Nat) (T : List (List Nat)) (hf : ∀ ws : List (List Nat), f ws.flatten = (ws.map f).sum) (p : List Pt) : DD.gSum (.l (p.map fun x => D.int ((f (ptT T x) : Nat) : Int))) = some (.int ((f (pcT T p) : Nat) : Int)) := by
  have e : (p.map fun x => D.int ((f (ptT T x) : Nat) : Int)) = (p.map fun x => ((f (ptT T x) : Nat) : Int)).map D.int := by rw [List.map_map]; rfl
  show (intsOf _).map _ = _
  rw [e, intsOf_map]
  show some (D.int _) = _
  congr 2
  unfold pcT
  rw [hf]
  clear e
  induction p with
  | nil => rfl
  | cons x r ih => rw [List.map_cons, List.sum_cons, ih, List.map_cons, List.map_cons, List.sum_cons]; omega
theorem len_flat (ws : List (List Nat)) : ws.flatten.length = (ws.map List.length).sum := by rw [List.length_flatten]
theorem count_flat (c : Nat) (ws : List (List Nat)) : ws.flatten.count c = (ws.map (List.count c)).sum := by rw [List.count_flatten]
def Pcs (b : List (List Pt)) : Prop := b.length ≤ 1000 ∧ ∀ p ∈ b, p.length ≤ 1000
theorem longs_at {s : Bool} {b : List (List Pt)} (hb : BkOk b 0) (hp : Pcs b) : V_longs_of [.v (bkE s b)] = some (.o (.l ((tolds b).map lenD)), []) := by
  obtain ⟨L', h1, h2⟩ := for_pre (enc := pcE s) (g := gN 2) (body := (sSeq (sEx (eApp 1 (e1 gSum (sqO (oLc (itV (eMv 2)) (gN 3) etT (eIf (etB (eIsi ["str"] (eMv 3))) (e1 gLen (sqL 3)) (eIxN 1 (eMv 3))) [3]))))) sNx))
    (fun pre L => ∃ j2 j3 : Slot, j2.np = true ∧ j3.np = true ∧ L = [.val (bkE s b), .liv (.l ((tolds pre).map lenD)), j2, j3]) b [] (L := [.val (bkE s b), .liv (.l []), .emp, .emp]) ⟨.emp, .emp, rfl, rfl, rfl⟩ (by
    rintro pre p post e L ⟨j2, j3, n2, n3, rfl⟩
    have hbp : b[pre.length]? = some p := by rw [show b = pre ++ p :: post from e]; simp
    have hok := BkOk_at hb hbp
    rw [Nat.zero_add] at hok
    have hl : p.length ≤ 1000 := hp.2 p (List.mem_of_getElem? hbp)
    have hpre : pre.length ≤ 1000 := by
      have := hp.1
      have e2 := congrArg List.length (show b = pre ++ p :: post from e)
      simp at e2; omega
    have tl := tolds_len pre
    have key := lc_mA (enc := ptD) (j := 3) (elt := eIf (etB (eIsi ["str"] (eMv 3))) (e1 gLen (sqL 3)) (eIxN 1 (eMv 3))) (Lw := [.val (bkE s b), .liv (.l ((tolds pre).map lenD)), .val (pcE s p), .emp]) rfl (fun x => D.int (((ptT (tolds pre) x).length : Nat) : Int)) p (fun x hx => by
      have := hok x hx
      cases x with
      | t w => simp [ptD, isiS, ptT]
      | i j =>
        have hj : j < (tolds pre).length := by rw [tl]; exact this
        have ix := ix_map lenD (tolds pre) (d := []) hj
        simp [ptD, isiS, ix, lenD, ptT])
    have sm := sum_lens List.length (tolds pre) len_flat p
    refine ⟨_, [.val (bkE s b), .liv (.l ((tolds (pre ++ [p])).map lenD)), .val (pcE s p), j3], by simp [n2]; rfl, ?_, .val (pcE s p), j3, rfl, n3, rfl⟩
    have hz : p.length ≤ 100000 := by omega
    have hz2 : (tolds pre).length ≤ 100000 := by omega
    generalize (p.map fun x => D.int (((ptT (tolds pre) x).length : Nat) : Int)) = Y at key sm
    rw [tolds_snoc, List.map_append]
    simp [x_noPar, n3, hz, key, sm, eApp, lsOf, hz2, lenD])
  obtain ⟨j2, j3, n2, n3, rfl⟩ := h2
  rw [List.nil_append] at h1
  simp [V_longs_of, fnD, B_longs_of, startE, parIx, csAt, h1]
theorem len_bk {s : Bool} {b : List (List Pt)} {L : DD.Env} {i : Nat} (h : L[i]? = some (.val (bkE s b))) : (e1 gLen (sqL i)) L = some (.int ((b.length : Nat) : Int), L) := by
  cases s <;> simp [bkE] at h <;> simp [h]
theorem ix_bk {s : Bool} {b : List (List Pt)} {L : DD.Env} {i : Nat} {eb : EV} {k : Nat} {p : List Pt} (h : L[i]? = some (.val (bkE s b))) (hb : eb L = some (.int (k : Int), L)) (hk : b[k]? = some p) : (eIxN i eb) L = some (pcE s p, L) := by
  have g : atI (b.map (pcE s)) (k : Int) = some (pcE s p) := atI_nat (by rw [List.getElem?_map, hk]; rfl)
  cases s <;> simp [bkE] at h <;> simp [h, hb, g]
theorem check_piece_at {s : Bool} {b : List (List Pt)} {k : Nat} (h : k < b.length) : V_check_piece [.v (bkE s b), .v (.int (k : Int))] = some (.v .non, []) := by
  have g1 : gLe (.int 0) (.int (k : Int)) = some (.bl true) := by
    show some (D.bl (decide ((0 : Int) ≤ (k : Int)))) = _
    rw [decide_eq_true (by omega)]
  have g2 : gLt (.int (k : Int)) (.int ((b.length : Nat) : Int)) = some (.bl true) := by
    show some (D.bl (decide ((k : Int) < ((b.length : Nat) : Int)))) = _
    rw [decide_eq_true (by omega)]
  have ln := len_bk (s := s) (b := b) (L := [.val (bkE s b), .val (.int (k : Int))]) (i := 0) rfl
  simp [-x_e1, V_check_piece, fnD, B_check_piece, startE, parIx, csAt, eChn, g1, g2, ln]
theorem gIxD_map {α : Type} (F : α → D) (T : List α) {k : Nat} {d : α} (h : k < T.length) : gIxD (.lst (T.map F)) (.int (k : Int)) = some (F (T.getD k d)) := ix_map F T h
theorem long_at {s : Bool} {b : List (List Pt)} {k : Nat} (hb : BkOk b 0) (hp : Pcs b) (h : k < b.length) : V_long_of [.v (bkE s b), .v (.int (k : Int))] = some (.v (.int (((told b k).length : Nat) : Int)), []) := by
  have g := gIxD_map lenD (tolds b) (k := k) (d := []) (by rw [tolds_len]; exact h)
  simp [V_long_of, fnD, B_long_of, startE, parIx, csAt, check_piece_at h, longs_at hb hp, g]
  rfl
def cntD (c : Nat) (w : List Nat) : D := .int ((w.count c : Nat) : Int)
theorem how_often_at {s : Bool} {b : List (List Pt)} {k c : Nat} (hb : BkOk b 0) (hp : Pcs b) (h : k < b.length) : V_how_often [.v (bkE s b), .v (.int (k : Int)), .v (.str [c])] = some (.v (.int (((told b k).count c : Nat) : Int)), []) := by
  obtain ⟨L', h1, h2⟩ := for_pre (enc := pcE s) (g := gN 4) (body := (sSeq (sEx (eApp 3 (e1 gSum (sqO (oLc (itV (eMv 4)) (gN 5) etT (eIf (etB (eIsi ["str"] (eMv 5))) (eM1 gCount (eMv 5) (sqL 2)) (eIxN 3 (eMv 5))) [5]))))) sNx))
    (fun pre L => ∃ j2 j3 : Slot, j2.np = true ∧ j3.np = true ∧ L = [.val (bkE s b), .val (.int (k : Int)), .val (.str [c]), .liv (.l ((tolds pre).map (cntD c))), j2, j3]) b [] (L := [.val (bkE s b), .val (.int (k : Int)), .val (.str [c]), .liv (.l []), .emp, .emp]) ⟨.emp, .emp, rfl, rfl, rfl⟩ (by
    rintro pre p post e L ⟨j2, j3, n2, n3, rfl⟩
    have hbp : b[pre.length]? = some p := by rw [show b = pre ++ p :: post from e]; simp
    have hok := BkOk_at hb hbp
    rw [Nat.zero_add] at hok
    have hl : p.length ≤ 1000 := hp.2 p (List.mem_of_getElem? hbp)
    have hpre : pre.length ≤ 1000 := by
      have := hp.1
      have e2 := congrArg List.length (show b = pre ++ p :: post from e)
      simp at e2; omega
    have tl := tolds_len pre
    have key := lc_mA (enc := ptD) (j := 5) (elt := eIf (etB (eIsi ["str"] (eMv 5))) (eM1 gCount (eMv 5) (sqL 2)) (eIxN 3 (eMv 5))) (Lw := [.val (bkE s b), .val (.int (k : Int)), .val (.str [c]), .liv (.l ((tolds pre).map (cntD c))), .val (pcE s p), .emp]) rfl (fun x => D.int (((ptT (tolds pre) x).count c : Nat) : Int)) p (fun x hx => by
      have := hok x hx
      cases x with
      | t w => simp [ptD, isiS, ptT, gCount]
      | i j =>
        have hj : j < (tolds pre).length := by rw [tl]; exact this
        have ix := ix_map (cntD c) (tolds pre) (d := []) hj
        simp [ptD, isiS, ix, cntD, ptT])
    have sm := sum_lens (List.count c) (tolds pre) (count_flat c) p
    refine ⟨_, [.val (bkE s b), .val (.int (k : Int)), .val (.str [c]), .liv (.l ((tolds (pre ++ [p])).map (cntD c))), .val (pcE s p), j3], by simp [n2]; rfl, ?_, .val (pcE s p), j3, rfl, n3, rfl⟩
    have hz : p.length ≤ 100000 := by omega
    have hz2 : (tolds pre).length ≤ 100000 := by omega
    generalize (p.map fun x => D.int (((ptT (tolds pre) x).count c : Nat) : Int)) = Y at key sm
    rw [tolds_snoc, List.map_append]
    simp [x_noPar, n3, hz, key, sm, eApp, lsOf, hz2, cntD])
  obtain ⟨j2, j3, n2, n3, rfl⟩ := h2
  rw [List.nil_append] at h1
  have g := ix_map (cntD c) (tolds b) (k := k) (d := []) (by rw [tolds_len]; exact h)
  simp [V_how_often, fnD, B_how_often, B_how_often_0, B_how_often_1, B_how_often_2, B_how_often_3, startE, parIx, csAt, check_piece_at h, h1, g]
  rfl
/-! ### forms -/
def frmD (w : List Nat) : D := toD (form w)
theorem forms_at {s : Bool} {b : List (List Pt)} (hb : BkOk b 0) (hp : Pcs b) : V_forms_of [.v (bkE s b)] = some (.o (.l ((tolds b).map frmD)), []) := by
  obtain ⟨L', h1, h2⟩ := for_pre (enc := pcE s) (g := gN 2) (body := (sSeq (sAs (gN 3) (eTup aNil)) (sSeq (sFor (itV (eMv 2)) (gN 4) (sSeq (sAs (gN 3) (eCall G_product (gV (eMv 3) (gV (eIf (etB (eIsi ["str"] (eMv 4))) (eCall G_form_of (gV (eMv 4) gNil0)) (eIxN 1 (eMv 4))) gNil0)))) sNx)) (sSeq (sEx (eApp 1 (eMv 3))) sNx))))
    (fun pre L => ∃ j2 j3 j4 : Slot, j2.np = true ∧ j3.np = true ∧ j4.np = true ∧ L = [.val (bkE s b), .liv (.l ((tolds pre).map frmD)), j2, j3, j4]) b [] (L := [.val (bkE s b), .liv (.l []), .emp, .emp, .emp]) ⟨.emp, .emp, .emp, rfl, rfl, rfl, rfl⟩ (by
    rintro pre p post e L ⟨j2, j3, j4, n2, n3, n4, rfl⟩
    have hbp : b[pre.length]? = some p := by rw [show b = pre ++ p :: post from e]; simp
    have hok := BkOk_at hb hbp
    rw [Nat.zero_add] at hok
    have hpre : pre.length ≤ 1000 := by
      have := hp.1
      have e2 := congrArg List.length (show b = pre ++ p :: post from e)
      simp at e2; omega
    have tl := tolds_len pre
    have hbk : BkOk pre 0 := by
      have : pre = b.take pre.length := by rw [show b = pre ++ p :: post from e]; simp
      rw [this]; exact BkOk_take hb
    have hT := tolds_ok hbk
    obtain ⟨L2, g1, g2⟩ := for_pre (enc := ptD) (g := gN 4) (body := (sSeq (sAs (gN 3) (eCall G_product (gV (eMv 3) (gV (eIf (etB (eIsi ["str"] (eMv 4))) (eCall G_form_of (gV (eMv 4) gNil0)) (eIxN 1 (eMv 4))) gNil0)))) sNx))
      (fun pp L => ∃ j4 : Slot, j4.np = true ∧ L = [.val (bkE s b), .liv (.l ((tolds pre).map frmD)), .val (pcE s p), .val (frmD (pcT (tolds pre) pp)), j4]) p [] (L := [.val (bkE s b), .liv (.l ((tolds pre).map frmD)), .val (pcE s p), .val (.tup []), j4]) ⟨j4, n4, by simp [pcT, frmD, form_nil, toD]⟩ (by
      rintro pp x qq e2 L ⟨j4, n4, rfl⟩
      have hx : x ∈ p := by rw [show p = pp ++ x :: qq from e2]; simp
      have hpp : Okw (pcT (tolds pre) pp) := pcT_ok hT fun y hy => by rw [tl]; exact hok y (by rw [show p = pp ++ x :: qq from e2]; simp [hy])
      have hxo : Okw (ptT (tolds pre) x) := by
        have := pcT_ok (p := [x]) hT fun y hy => by rw [tl, List.mem_singleton.mp hy]; exact hok x hx
        simpa [pcT] using this
      have ep : pcT (tolds pre) (pp ++ [x]) = pcT (tolds pre) pp ++ ptT (tolds pre) x := by simp [pcT]
      have pr := G_product_at hpp.fok hxo.fok
      rw [prod_form] at pr
      have pr : G_product [.v (frmD (pcT (tolds pre) pp)), .v (frmD (ptT (tolds pre) x))] = some (.v (frmD (pcT (tolds pre) pp ++ ptT (tolds pre) x)), []) := pr
      refine ⟨_, [.val (bkE s b), .liv (.l ((tolds pre).map frmD)), .val (pcE s p), .val (frmD (pcT (tolds pre) (pp ++ [x]))), .val (ptD x)], by simp [n4]; rfl, ?_, .val (ptD x), rfl, rfl⟩
      rw [ep]
      have hkx := hok x hx
      cases x with
      | t w =>
        have f1 : G_form_of [.v (.str w)] = some (.v (frmD w), []) := G_form_of_ok hkx.1 hkx.2
        simp only [ptT] at pr ⊢
        simp [ptD, isiS, f1, pr]
      | i j =>
        have hj : j < (tolds pre).length := by rw [tl]; exact hkx
        have ix := ix_map frmD (tolds pre) (d := []) hj
        simp only [ptT] at pr ⊢
        generalize (tolds pre).getD j [] = Z at pr ix ⊢
        simp [ptD, isiS, ix, pr])
    obtain ⟨j4', n4', rfl⟩ := g2
    rw [List.nil_append] at g1
    have hz2 : (tolds pre).length ≤ 100000 := by omega
    refine ⟨_, [.val (bkE s b), .liv (.l ((tolds (pre ++ [p])).map frmD)), .val (pcE s p), .val (frmD (pcT (tolds pre) p)), j4'], by simp [n2]; rfl, ?_, .val (pcE s p), .val (frmD (pcT (tolds pre) p)), j4', rfl, rfl, n4', rfl⟩
    rw [tolds_snoc, List.map_append]
    simp [n3, g1, eApp, lsOf, hz2])
  obtain ⟨j2, j3, j4, n2, n3, n4, rfl⟩ := h2
  rw [List.nil_append] at h1
  simp [V_forms_of, fnD, B_forms_of, startE, parIx, csAt, h1]
theorem sl_bk {s : Bool} {b : List (List Pt)} {k : Nat} (h : k ≤ b.length) : gSl (bkE s b) none (some (k : Int)) = some (bkE s (b.take k)) := by
  have e : cutL (b.map (pcE s)) none (some (k : Int)) = (b.take k).map (pcE s) := by
    rw [cut_to _ _ (by rw [List.length_map]; exact h), ← List.map_take]
  cases s with
  | true => show some (D.lst (cutL (b.map (pcE true)) none (some (k : Int)))) = _; rw [e]; rfl
  | false => show some (D.tup (cutL (b.map (pcE false)) none (some (k : Int)))) = _; rw [e]; rfl
theorem Pcs.take {b : List (List Pt)} (h : Pcs b) (k : Nat) : Pcs (b.take k) := ⟨by rw [List.length_take]; have := h.1; omega, fun p hp => h.2 p (List.mem_of_mem_take hp)⟩
theorem form_in_at {s : Bool} {b : List (List Pt)} {k : Nat} (hb : BkOk b 0) (hp : Pcs b) (h : k < b.length) : V_form_in [.v (bkE s b), .v (.int (k : Int))] = some (.v (toD (form (told b k))), []) := by
  have lt : (b.take (k + 1)).length = k + 1 := by rw [List.length_take]; omega
  have g := gIxD_map frmD (tolds (b.take (k + 1))) (k := k) (d := []) (by rw [tolds_len, lt]; omega)
  have c2 := forms_at (s := s) (BkOk_take (k := k + 1) hb) (hp.take _)
  have e : (tolds (b.take (k + 1))).getD k [] = told b k := told_take h
  rw [e] at g
  have g2 : gSl (bkE s b) none (some ((k : Int) + 1)) = some (bkE s (b.take (k + 1))) := sl_bk (s := s) (k := k + 1) (show k + 1 ≤ b.length by omega)
  simp [V_form_in, fnD, B_form_in, startE, parIx, csAt, check_piece_at h, g2, c2, g]
  rfl
theorem told_small {b : List (List Pt)} (hb : BkOk b 0) (k : Nat) (hl : (told b k).length ≤ 100000) : Small (told b k) := (told_ok hb k).small hl
theorem gEq_ok {u v : List Nat} (hu : Okw u) (hv : Okw v) : gEq (toD (form u)) (toD (form v)) = some (.bl (decide (form u = form v))) :=
  gEq_form (okF_form _ (Nat.le_refl _) hu.chr) (okF_form _ (Nat.le_refl _) hv.chr) (by have := hu.dep; omega) (by have := hv.dep; omega)
theorem alike_pieces_at {s : Bool} {b : List (List Pt)} {k j : Nat} (hb : BkOk b 0) (hp : Pcs b) (h : k < b.length) (h' : j < b.length) : V_alike_pieces [.v (bkE s b), .v (.int (k : Int)), .v (.int (j : Int))] = some (.v (.bl (decide (form (told b k) = form (told b j)))), []) := by
  simp [V_alike_pieces, fnD, B_alike_pieces, startE, parIx, csAt, form_in_at hb hp h, form_in_at hb hp h', gEq_ok (told_ok hb k) (told_ok hb j)]
end DG

end
section
set_option Elab.async false
set_option linter.all false
set_option maxRecDepth 100000
set_option maxHeartbeats 1000000
/-! SB2: stretches, places in books. -/
namespace DG
open PySem PySem.Spec PyProof.Rows L2 RZ DD FM
open TL (joinL)
open Classical
/-- the letters from place a on, ahead of place b -/
def sub (w : List Nat) (a b : Nat) : List Nat := (w.take b).drop a
theorem sub_app (u v : List Nat) (a b : Nat) : sub (u ++ v) a b = sub u a b ++ sub v (a - u.length) (b - u.length) := by
  unfold sub
  rw [List.take_append, List.drop_append, List.length_take]
  congr 1
  by_cases h : b ≤ u.length
  · rw [show b - u.length = 0 by omega]; simp
  · rw [Nat.min_eq_right (by omega)]
theorem sub_len (w : List Nat) (a b : Nat) : (sub w a b).length ≤ b - a := by
  unfold sub
  rw [List.length_drop, List.length_take]; omega
theorem sub_nil {w : List Nat} {a b : Nat} (h : b ≤ a ∨ w.length ≤ a) : sub w a b = [] := by
  unfold sub
  apply List.drop_eq_nil_of_le
  rw [List.length_take]; omega
theorem sub_all (w : List Nat) {b : Nat} (h : w.length ≤ b) : sub w 0 b = w := by
  unfold sub
  rw [List.drop_zero, List.take_of_length_le h]
theorem sub_min (w : List Nat) (a b : Nat) : sub w a (min w.length b) = sub w a b := by
  unfold sub
  by_cases h : b ≤ w.length
  · rw [Nat.min_eq_right h]
  · rw [Nat.min_eq_left (by omega), List.take_of_length_le (Nat.le_refl _), List.take_of_length_le (by omega)]
theorem cut_sub (w : List Nat) (a b : Nat) : cutL w (some (a : Int)) (some (b : Int)) = sub w a b := by
  unfold cutL sub
  rw [HT.sIx_nat, HT.sIx_nat]
  by_cases ha : a ≤ w.length
  · rw [Nat.min_eq_left ha, ← List.drop_take]
    by_cases hb : b ≤ w.length
    · rw [Nat.min_eq_left hb]
    · rw [Nat.min_eq_right (by omega), List.take_of_length_le (Nat.le_refl _), List.take_of_length_le (by omega)]
  · rw [show min a w.length = w.length by omega, List.drop_of_length_le (Nat.le_refl _), List.drop_of_length_le (by rw [List.length_take]; omega)]
    simp
theorem Okw.sub {w : List Nat} (h : Okw w) (a b : Nat) : Okw (sub w a b) := fun c hc => h c (List.mem_of_mem_take (List.mem_of_mem_drop hc))
/-- the bounds as the code tells them -/
def loI (bg f : Nat) : Int := ((f - bg : Nat) : Int)
def hiI (n bg l : Nat) : Int := if (l : Int) - bg < n then (l : Int) - bg else n
theorem cut_to_at {T : List (List Nat)} {x : Pt} (hx : PtOk T.length x) (bg f l : Nat) : V_cut_to [.v (ptD x), .v (.lst (T.map lenD)), .v (.int (bg : Int)), .v (.int (f : Int)), .v (.int (l : Int))] = some (.v (.tup [.int (loI bg f), .int (hiI (ptT T x).length bg l), .int (((ptT T x).length : Nat) : Int)]), []) := by
  have e1 : gMax2 (.int 0) (.int ((f : Int) - bg)) = some (.int (loI bg f)) := by
    show some (D.int (if (f : Int) - bg > 0 then (f : Int) - bg else 0)) = _
    unfold loI
    congr 2
    split <;> omega
  have e2 : ∀ n : Nat, gMin2 (.int (n : Int)) (.int ((l : Int) - bg)) = some (.int (hiI n bg l)) := fun n => rfl
  have e3 : ∀ i j : Int, gSub (.int i) (.int j) = some (.int (i - j)) := fun _ _ => rfl
  cases x with
  | t w => simp [V_cut_to, fnD, B_cut_to, startE, parIx, csAt, ptD, isiS, e3, e1, e2, ptT]
  | i j =>
    have hj : j < T.length := hx
    have ix := ix_map lenD T (d := []) hj
    simp [V_cut_to, fnD, B_cut_to, startE, parIx, csAt, ptD, isiS, e3, e1, ix, lenD, e2, ptT]
theorem part_cut {v : List Nat} {bg f l : Nat} : (loI bg f < hiI v.length bg l → ∃ h : Nat, hiI v.length bg l = (h : Int) ∧ sub v (f - bg) h = sub v (f - bg) (l - bg) ∧ h - (f - bg) ≤ l - f) ∧ (¬ loI bg f < hiI v.length bg l → sub v (f - bg) (l - bg) = []) := by
  unfold loI hiI
  constructor
  · intro h
    by_cases hc : (l : Int) - bg < v.length
    · rw [if_pos hc] at h ⊢
      exact ⟨l - bg, by omega, rfl, by omega⟩
    · rw [if_neg hc] at h ⊢
      refine ⟨v.length, rfl, ?_, by omega⟩
      rw [← sub_min v _ (l - bg), Nat.min_eq_left (by omega)]
  · intro h
    apply sub_nil
    split at h <;> omega
theorem Pt_T {b : List (List Pt)} {k : Nat} {p : List Pt} (hb : BkOk b 0) (hk : b[k]? = some p) : ∀ x ∈ p, PtOk k x := by
  have := BkOk_at hb hk
  rwa [Nat.zero_add] at this
theorem PtOk.mono {n m : Nat} {x : Pt} (h : PtOk n x) (hm : n ≤ m) : PtOk m x := by
  cases x with
  | t w => exact h
  | i j => exact Nat.lt_of_lt_of_le h hm
theorem stretch_in_at {s : Bool} {b : List (List Pt)} (hb : BkOk b 0) : ∀ (m k f l : Nat), k < m → k < b.length → l - f ≤ 1000 → V_stretch_in m [.v (bkE s b), .v (.lst ((tolds b).map lenD)), .v (.int (k : Int)), .v (.int (f : Int)), .v (.int (l : Int))] = some (.v (.str (sub (told b k) f l)), [])
  | 0, _, _, _, h, _, _ => absurd h (Nat.not_lt_zero _)
  | m + 1, k, f, l, hkm, hk, hfl => by
    obtain ⟨p, hp⟩ : ∃ p, b[k]? = some p := ⟨_, List.getElem?_eq_getElem hk⟩
    have hok := Pt_T hb hp
    have tl := tolds_len b
    rw [V_stretch_in_s]
    obtain ⟨L', h1, h2⟩ := for_pre (enc := ptD) (g := gN 7) (body := (sSeq (sAs (gU 3 (gCn (gN 8) (gCn (gN 9) (gCn (gN 10) gNl)))) (eCall V_cut_to (gV (eMv 7) (gV (eMv 1) (gV (eMv 6) (gV (eMv 3) (gV (eMv 4) gNil0))))))) (sSeq (sIf (etB (eOp gLt (eMv 8) (eMv 9))) (sSeq (sAug gIadd 5 (eIf (etB (eIsi ["str"] (eMv 7))) (eSl (eMv 7) (pOf (eMv 8)) (pOf (eMv 9))) (eCall (V_stretch_in m) (gV (eMv 0) (gV (eMv 1) (gV (eMv 7) (gV (eMv 8) (gV (eMv 9) gNil0)))))))) sNx) sNx) (sSeq (sAug gIadd 6 (eMv 10)) sNx))))
      (fun pp L => ∃ j7 j8 j9 j10 : Slot, j7.np = true ∧ j8.np = true ∧ j9.np = true ∧ j10.np = true ∧ L = [.val (bkE s b), .val (.lst ((tolds b).map lenD)), .val (.int (k : Int)), .val (.int (f : Int)), .val (.int (l : Int)), .val (.str (sub (pcT (tolds b) pp) f l)), .val (.int (((pcT (tolds b) pp).length : Nat) : Int)), j7, j8, j9, j10]) p []
      (L := [.val (bkE s b), .val (.lst ((tolds b).map lenD)), .val (.int (k : Int)), .val (.int (f : Int)), .val (.int (l : Int)), .val (.str []), .val (.int 0), .emp, .emp, .emp, .emp]) ⟨.emp, .emp, .emp, .emp, rfl, rfl, rfl, rfl, by simp [pcT, sub]⟩ (by
      rintro pp x qq e L ⟨j7, j8, j9, j10, n7, n8, n9, n10, rfl⟩
      have hx : x ∈ p := by rw [show p = pp ++ x :: qq from e]; simp
      have hxo := hok x hx
      have ep : pcT (tolds b) (pp ++ [x]) = pcT (tolds b) pp ++ ptT (tolds b) x := by simp [pcT]
      have cc := cut_to_at (T := tolds b) (x := x) (hxo.mono (by omega)) (pcT (tolds b) pp).length f l
      obtain ⟨c1, c2⟩ := part_cut (v := ptT (tolds b) x) (bg := (pcT (tolds b) pp).length) (f := f) (l := l)
      have hs := sub_len (pcT (tolds b) pp) f l
      refine ⟨_, [.val (bkE s b), .val (.lst ((tolds b).map lenD)), .val (.int (k : Int)), .val (.int (f : Int)), .val (.int (l : Int)), .val (.str (sub (pcT (tolds b) (pp ++ [x])) f l)), .val (.int (((pcT (tolds b) (pp ++ [x])).length : Nat) : Int)), .val (ptD x), .val (.int (loI (pcT (tolds b) pp).length f)), .val (.int (hiI (ptT (tolds b) x).length (pcT (tolds b) pp).length l)), .val (.int (((ptT (tolds b) x).length : Nat) : Int))], by simp [n7]; rfl, ?_, _, _, _, _, rfl, rfl, rfl, rfl, rfl⟩
      rw [ep, sub_app, List.length_append]
      have ia : ∀ i j : Int, gIadd (.int i) (.int j) = some (.int (i + j)) := fun _ _ => rfl
      by_cases hc : loI (pcT (tolds b) pp).length f < hiI (ptT (tolds b) x).length (pcT (tolds b) pp).length l
      · obtain ⟨h, hh, hs2, hle⟩ := c1 hc
        have hs3 := sub_len (ptT (tolds b) x) (f - (pcT (tolds b) pp).length) (l - (pcT (tolds b) pp).length)
        have ib : gIadd (.str (sub (pcT (tolds b) pp) f l)) (.str (sub (ptT (tolds b) x) (f - (pcT (tolds b) pp).length) (l - (pcT (tolds b) pp).length))) = some (.str (sub (pcT (tolds b) pp) f l ++ sub (ptT (tolds b) x) (f - (pcT (tolds b) pp).length) (l - (pcT (tolds b) pp).length))) := by
          rw [x_gIadd, if_pos (by clear c1 c2 cc hc hh hs2; omega)]
        have hc' : ((f - (pcT (tolds b) pp).length : Nat) : Int) < (h : Int) := by rw [hh] at hc; exact hc
        rw [hh] at cc ⊢
        unfold loI at cc ⊢
        cases x with
        | t w =>
          have cs := cut_sub w (f - (pcT (tolds b) pp).length) h
          simp only [ptT, ptD] at cc hs2 ib ⊢
          rw [hs2] at cs
          generalize (pcT (tolds b) pp).length = B at *
          simp [-x_gIadd, n8, n9, n10, cc, isiS, cs, ib, ia, show f - B < h by omega]
        | i j =>
          have hj : j < k := hxo
          have rc := stretch_in_at (s := s) hb m j (f - (pcT (tolds b) pp).length) h (by omega) (by omega) (by omega)
          have et : told b j = ptT (tolds b) (.i j) := rfl
          rw [et, hs2] at rc
          generalize (pcT (tolds b) pp).length = B at *
          generalize ptT (tolds b) (.i j) = Z at *
          simp only [ptD] at cc ⊢
          simp [-x_gIadd, n8, n9, n10, cc, isiS, rc, ib, ia, show f - B < h by omega]
      · rw [c2 hc, List.append_nil]
        simp [-x_gIadd, n8, n9, n10, cc, hc, ia])
    obtain ⟨j7, j8, j9, j10, n7, n8, n9, n10, rfl⟩ := h2
    rw [List.nil_append] at h1
    rw [told_pc hb hp]
    have ixp := ix_bk (s := s) (b := b) (L := [.val (bkE s b), .val (.lst ((tolds b).map lenD)), .val (.int (k : Int)), .val (.int (f : Int)), .val (.int (l : Int)), .val (.str []), .val (.int 0), .emp, .emp, .emp, .emp]) (i := 0) (eb := eMv 2) rfl rfl hp
    simp [-x_eIxN, fnD, B_stretch_in, startE, parIx, csAt, ixp, h1]
theorem stretch_at {s : Bool} {b : List (List Pt)} {k f n : Nat} (hb : BkOk b 0) (hp : Pcs b) (h : k < b.length) (hl : b.length ≤ 115) (hn : n ≤ 1000) : V_stretch_of [.v (bkE s b), .v (.int (k : Int)), .v (.int (f : Int)), .v (.int (n : Int))] = some (.v (.str (sub (told b k) f (f + n))), []) := by
  have g1 : gAdd (.int (f : Int)) (.int (n : Int)) = some (.int ((f + n : Nat) : Int)) := rfl
  have c := stretch_in_at (s := s) hb 115 k f (f + n) (by omega) h (by omega)
  simp only [Int.natCast_add] at c g1
  simp [V_stretch_of, fnD, B_stretch_of, startE, parIx, csAt, check_piece_at h, longs_at hb hp, c]
theorem sub_one (w : List Nat) (i : Nat) : sub w i (i + 1) = match w[i]? with | some c => [c] | none => [] := by
  unfold sub
  cases e : w[i]? with
  | none => exact List.drop_eq_nil_of_le (by rw [List.length_take]; have := List.getElem?_eq_none_iff.mp e; omega)
  | some c =>
    have hi := (List.getElem?_eq_some_iff.mp e).1
    rw [List.take_succ, e, List.drop_append, List.length_take, Nat.min_eq_left (by omega), List.drop_eq_nil_of_le (by rw [List.length_take]; omega)]
    simp
/-- the letter at a place -/
def ltrD (w : List Nat) (i : Int) : D := if 0 ≤ i then (match w[i.toNat]? with | some c => .str [c] | none => .non) else .non
theorem letter_at_at {s : Bool} {b : List (List Pt)} {k : Nat} {i : Int} (hb : BkOk b 0) (hp : Pcs b) (h : k < b.length) (hl : b.length ≤ 115) : V_letter_at [.v (bkE s b), .v (.int (k : Int)), .v (.int i)] = some (.v (ltrD (told b k) i), []) := by
  unfold ltrD
  by_cases hi : 0 ≤ i
  · obtain ⟨n, rfl⟩ : ∃ n : Nat, i = (n : Int) := ⟨i.toNat, by omega⟩
    have c := stretch_at (s := s) (f := n) (n := 1) hb hp h hl (by decide)
    rw [sub_one] at c
    have c : V_stretch_of [.v (bkE s b), .v (.int (k : Int)), .v (.int (n : Int)), .v (.int 1)] = _ := c
    rw [if_pos hi, Int.toNat_natCast]
    cases e : (told b k)[n]? with
    | none => rw [e] at c; simp [V_letter_at, fnD, B_letter_at, startE, parIx, csAt, check_piece_at h, c]
    | some x => rw [e] at c; simp [V_letter_at, fnD, B_letter_at, startE, parIx, csAt, check_piece_at h, c]
  · rw [if_neg hi]
    simp [V_letter_at, fnD, B_letter_at, startE, parIx, csAt, check_piece_at h, hi]
/-! ### form_between -/
noncomputable abbrev fisB (m : Nat) : SV := (sSeq (sAs (gU 3 (gCn (gN 10) (gCn (gN 11) (gCn (gN 12) gNl)))) (eCall V_cut_to (gV (eMv 9) (gV (eMv 5) (gV (eMv 8) (gV (eMv 3) (gV (eMv 4) gNil0))))))) (sSeq (sIf (etB (eOp gLt (eMv 10) (eMv 11))) (sSeq (sIf (etB (eIsi ["str"] (eMv 9))) (sSeq (sAs (gN 7) (eCall G_product (gV (eMv 7) (gV (eCall G_form_of (gV (eSl (eMv 9) (pOf (eMv 10)) (pOf (eMv 11))) gNil0)) gNil0)))) sNx) (sSeq (sAs (gN 13) (eAnd (eOp gEq (eMv 10) (eC (.int 0))) (eOp gEq (eMv 11) (eMv 12)))) (sSeq (sAs (gN 7) (eCall G_product (gV (eMv 7) (gV (eIf (etB (eMv 13)) (eIxN 6 (eMv 9)) (eCall (V_form_in_stretch m) (gV (eMv 0) (gV (eMv 1) (gV (eMv 9) (gV (eMv 10) (gV (eMv 11) gNil0))))))) gNil0)))) sNx))) sNx) sNx) (sSeq (sAug gIadd 8 (eMv 12)) sNx)))
theorem form_in_stretch_at {s : Bool} {b : List (List Pt)} (hb : BkOk b 0) : ∀ (m k f l : Nat), k < m → k < b.length → l - f ≤ 1000 → V_form_in_stretch m [.v (bkE s b), .v (.tup [.lst ((tolds b).map lenD), .lst ((tolds b).map frmD)]), .v (.int (k : Int)), .v (.int (f : Int)), .v (.int (l : Int))] = some (.v (frmD (sub (told b k) f l)), [])
  | 0, _, _, _, h, _, _ => absurd h (Nat.not_lt_zero _)
  | m + 1, k, f, l, hkm, hk, hfl => by
    obtain ⟨p, hp⟩ : ∃ p, b[k]? = some p := ⟨_, List.getElem?_eq_getElem hk⟩
    have hok := Pt_T hb hp
    have tl := tolds_len b
    have hT := tolds_ok hb
    rw [V_form_in_stretch_s]
    obtain ⟨L', h1, h2⟩ := for_pre (enc := ptD) (g := gN 9) (body := fisB m)
      (fun pp L => ∃ j9 j10 j11 j12 j13 : Slot, j9.np = true ∧ j10.np = true ∧ j11.np = true ∧ j12.np = true ∧ j13.np = true ∧ L = [.val (bkE s b), .val (.tup [.lst ((tolds b).map lenD), .lst ((tolds b).map frmD)]), .val (.int (k : Int)), .val (.int (f : Int)), .val (.int (l : Int)), .val (.lst ((tolds b).map lenD)), .val (.lst ((tolds b).map frmD)), .val (frmD (sub (pcT (tolds b) pp) f l)), .val (.int (((pcT (tolds b) pp).length : Nat) : Int)), j9, j10, j11, j12, j13]) p []
      (L := [.val (bkE s b), .val (.tup [.lst ((tolds b).map lenD), .lst ((tolds b).map frmD)]), .val (.int (k : Int)), .val (.int (f : Int)), .val (.int (l : Int)), .val (.lst ((tolds b).map lenD)), .val (.lst ((tolds b).map frmD)), .val (.tup []), .val (.int 0), .emp, .emp, .emp, .emp, .emp]) ⟨.emp, .emp, .emp, .emp, .emp, rfl, rfl, rfl, rfl, rfl, by simp [pcT, sub, frmD, form_nil, toD]⟩ (by
      rintro pp x qq e L ⟨j9, j10, j11, j12, j13, n9, n10, n11, n12, n13, rfl⟩
      have hx : x ∈ p := by rw [show p = pp ++ x :: qq from e]; simp
      have hxo := hok x hx
      have ep : pcT (tolds b) (pp ++ [x]) = pcT (tolds b) pp ++ ptT (tolds b) x := by simp [pcT]
      have hpp : Okw (pcT (tolds b) pp) := pcT_ok hT fun y hy => (hok y (by rw [show p = pp ++ x :: qq from e]; simp [hy])).mono (by omega)
      have hxw : Okw (ptT (tolds b) x) := by
        have := pcT_ok (p := [x]) hT fun y hy => by rw [List.mem_singleton.mp hy]; exact hxo.mono (by omega)
        simpa [pcT] using this
      have cc := cut_to_at (T := tolds b) (x := x) (hxo.mono (by omega)) (pcT (tolds b) pp).length f l
      obtain ⟨c1, c2⟩ := part_cut (v := ptT (tolds b) x) (bg := (pcT (tolds b) pp).length) (f := f) (l := l)
      have ia : ∀ i j : Int, gIadd (.int i) (.int j) = some (.int (i + j)) := fun _ _ => rfl
      have pr := G_product_at (hpp.sub f l).fok (hxw.sub (f - (pcT (tolds b) pp).length) (l - (pcT (tolds b) pp).length)).fok
      rw [prod_form] at pr
      have pr : G_product [.v (frmD (sub (pcT (tolds b) pp) f l)), .v (frmD (sub (ptT (tolds b) x) (f - (pcT (tolds b) pp).length) (l - (pcT (tolds b) pp).length)))] = some (.v (frmD (sub (pcT (tolds b) pp) f l ++ sub (ptT (tolds b) x) (f - (pcT (tolds b) pp).length) (l - (pcT (tolds b) pp).length))), []) := pr
      refine ⟨[.val (bkE s b), .val (.tup [.lst ((tolds b).map lenD), .lst ((tolds b).map frmD)]), .val (.int (k : Int)), .val (.int (f : Int)), .val (.int (l : Int)), .val (.lst ((tolds b).map lenD)), .val (.lst ((tolds b).map frmD)), .val (frmD (sub (pcT (tolds b) pp) f l)), .val (.int (((pcT (tolds b) pp).length : Nat) : Int)), .val (ptD x), j10, j11, j12, j13], ?_⟩
      have hg : gN 9 (ptD x) [.val (bkE s b), .val (.tup [.lst ((tolds b).map lenD), .lst ((tolds b).map frmD)]), .val (.int (k : Int)), .val (.int (f : Int)), .val (.int (l : Int)), .val (.lst ((tolds b).map lenD)), .val (.lst ((tolds b).map frmD)), .val (frmD (sub (pcT (tolds b) pp) f l)), .val (.int (((pcT (tolds b) pp).length : Nat) : Int)), j9, j10, j11, j12, j13] = some [.val (bkE s b), .val (.tup [.lst ((tolds b).map lenD), .lst ((tolds b).map frmD)]), .val (.int (k : Int)), .val (.int (f : Int)), .val (.int (l : Int)), .val (.lst ((tolds b).map lenD)), .val (.lst ((tolds b).map frmD)), .val (frmD (sub (pcT (tolds b) pp) f l)), .val (.int (((pcT (tolds b) pp).length : Nat) : Int)), .val (ptD x), j10, j11, j12, j13] := by simp [n9]
      refine (fun (z : ∃ j13' : Slot, j13'.np = true ∧ fisB m [.val (bkE s b), .val (.tup [.lst ((tolds b).map lenD), .lst ((tolds b).map frmD)]), .val (.int (k : Int)), .val (.int (f : Int)), .val (.int (l : Int)), .val (.lst ((tolds b).map lenD)), .val (.lst ((tolds b).map frmD)), .val (frmD (sub (pcT (tolds b) pp) f l)), .val (.int (((pcT (tolds b) pp).length : Nat) : Int)), .val (ptD x), j10, j11, j12, j13] = some (Out.nx [.val (bkE s b), .val (.tup [.lst ((tolds b).map lenD), .lst ((tolds b).map frmD)]), .val (.int (k : Int)), .val (.int (f : Int)), .val (.int (l : Int)), .val (.lst ((tolds b).map lenD)), .val (.lst ((tolds b).map frmD)), .val (frmD (sub (pcT (tolds b) (pp ++ [x])) f l)), .val (.int (((pcT (tolds b) (pp ++ [x])).length : Nat) : Int)), .val (ptD x), .val (.int (loI (pcT (tolds b) pp).length f)), .val (.int (hiI (ptT (tolds b) x).length (pcT (tolds b) pp).length l)), .val (.int (((ptT (tolds b) x).length : Nat) : Int)), j13'])) => ?_) ?_
      · obtain ⟨j13', nn, z⟩ := z
        exact ⟨_, hg, z, _, _, _, _, j13', rfl, rfl, rfl, rfl, nn, rfl⟩
      rw [ep, sub_app, List.length_append]
      by_cases hc : loI (pcT (tolds b) pp).length f < hiI (ptT (tolds b) x).length (pcT (tolds b) pp).length l
      · obtain ⟨h, hh, hs2, hle⟩ := c1 hc
        have hc' : ((f - (pcT (tolds b) pp).length : Nat) : Int) < (h : Int) := by rw [hh] at hc; exact hc
        rw [hh] at cc ⊢
        unfold loI at cc ⊢
        cases x with
        | t w =>
          refine ⟨j13, n13, ?_⟩
          have cs := cut_sub w (f - (pcT (tolds b) pp).length) h
          simp only [ptT, ptD] at cc hs2 pr ⊢
          rw [hs2] at cs
          have f1 : G_form_of [.v (.str (sub w (f - (pcT (tolds b) pp).length) (l - (pcT (tolds b) pp).length)))] = some (.v (frmD (sub w (f - (pcT (tolds b) pp).length) (l - (pcT (tolds b) pp).length))), []) := G_form_of_ok (Okw.sub hxo.1 _ _) (by have := sub_len w (f - (pcT (tolds b) pp).length) (l - (pcT (tolds b) pp).length); clear c1 c2 cc hc hh hs2; omega)
          generalize (pcT (tolds b) pp).length = B at *
          simp [-x_gIadd, n10, n11, n12, cc, isiS, cs, f1, pr, ia, show f - B < h by omega]
        | i j =>
          have hj : j < k := hxo
          have rc := form_in_stretch_at (s := s) hb m j (f - (pcT (tolds b) pp).length) h (by omega) (by omega) (by omega)
          have et : told b j = ptT (tolds b) (.i j) := rfl
          have ix := ix_map frmD (tolds b) (k := j) (d := []) (by omega)
          have ix : atI ((tolds b).map frmD) (j : Int) = some (frmD (ptT (tolds b) (.i j))) := ix
          rw [et, hs2] at rc
          have hw : f - (pcT (tolds b) pp).length = 0 → h = (ptT (tolds b) (.i j)).length → frmD (ptT (tolds b) (.i j)) = frmD (sub (ptT (tolds b) (.i j)) (f - (pcT (tolds b) pp).length) (l - (pcT (tolds b) pp).length)) := fun h0 hn => by
            rw [← hs2, h0, sub_all _ (by omega)]
          generalize (pcT (tolds b) pp).length = B at *
          generalize hZ : ptT (tolds b) (.i j) = Z at *
          simp only [ptD] at cc ⊢
          by_cases h0 : f - B = 0
          · by_cases hn : h = Z.length
            · have hw := hw h0 hn
              rw [← hw] at pr
              rw [h0] at cc pr ⊢
              subst hn
              refine ⟨.val (.bl true), rfl, ?_⟩
              simp [-x_gIadd, n10, n11, n12, n13, cc, isiS, ix, pr, ia, show 0 < Z.length by omega]
            · refine ⟨.val (.bl false), rfl, ?_⟩
              rw [h0] at cc rc pr ⊢
              simp only [Int.natCast_zero] at rc
              simp [-x_gIadd, n10, n11, n12, n13, cc, isiS, rc, pr, ia, hn, show 0 < h by omega, show ¬ (h : Int) = (Z.length : Int) by omega]
          · refine ⟨.val (.bl false), rfl, ?_⟩
            simp [-x_gIadd, n10, n11, n12, n13, cc, isiS, rc, pr, ia, show f - B < h by omega, h0]
      · refine ⟨j13, n13, ?_⟩
        rw [c2 hc, List.append_nil]
        simp [-x_gIadd, n10, n11, n12, cc, hc, ia])
    obtain ⟨j9, j10, j11, j12, j13, n9, n10, n11, n12, n13, rfl⟩ := h2
    rw [List.nil_append] at h1
    rw [told_pc hb hp]
    have ixp := ix_bk (s := s) (b := b) (L := [.val (bkE s b), .val (.tup [.lst ((tolds b).map lenD), .lst ((tolds b).map frmD)]), .val (.int (k : Int)), .val (.int (f : Int)), .val (.int (l : Int)), .val (.lst ((tolds b).map lenD)), .val (.lst ((tolds b).map frmD)), .val (.tup []), .val (.int 0), .emp, .emp, .emp, .emp, .emp]) (i := 0) (eb := eMv 2) rfl rfl hp
    simp [-x_eIxN, fnD, B_form_in_stretch, B_form_in_stretch_0, B_form_in_stretch_1, B_form_in_stretch_2, B_form_in_stretch_3, startE, parIx, csAt, ixp, h1]
theorem form_between_at {s : Bool} {b : List (List Pt)} {k f l : Nat} (hb : BkOk b 0) (hp : Pcs b) (h : k < b.length) (hl : b.length ≤ 115) (hn : l - f ≤ 1000) : V_form_between [.v (bkE s b), .v (.int (k : Int)), .v (.int (f : Int)), .v (.int (l : Int))] = some (.v (toD (form (sub (told b k) f l))), []) := by
  have c := form_in_stretch_at (s := s) hb 115 k f l (by omega) h hn
  simp [V_form_between, fnD, B_form_between, startE, parIx, csAt, check_piece_at h, longs_at hb hp, forms_at hb hp, c]
  rfl
end DG

end
section
set_option Elab.async false
set_option linter.all false
set_option maxRecDepth 100000
set_option maxHeartbeats 1000000
/-! SB3: first and last places in books. -/
namespace DG
open PySem PySem.Spec PyProof.Rows L2 RZ DD FM
open TL (joinL)
open Classical
theorem fst1_app (c : Nat) : ∀ (u v : List Nat), fst1 c (u ++ v) = (fst1 c u).or ((fst1 c v).map (· + u.length))
  | [], v => by
    show fst1 c v = (fst1 c v).map (· + 0)
    cases fst1 c v <;> rfl
  | x :: u, v => by
    show (if x = c then some 0 else (fst1 c (u ++ v)).map (· + 1)) = Option.or (if x = c then some 0 else (fst1 c u).map (· + 1)) ((fst1 c v).map (· + (u.length + 1)))
    by_cases h : x = c
    · rw [if_pos h, if_pos h]; rfl
    · rw [if_neg h, if_neg h, fst1_app c u v]
      cases fst1 c u with
      | some i => rfl
      | none =>
        cases fst1 c v with
        | none => rfl
        | some i => rfl
def plD (o : Option Nat) : D := match o with | some i => .int (i : Int) | none => .non
theorem first_at {s : Bool} {b : List (List Pt)} {k c : Nat} (hb : BkOk b 0) (hp : Pcs b) (h : k < b.length) : V_first_place [.v (bkE s b), .v (.int (k : Int)), .v (.str [c])] = some (.v (plD (fst1 c (told b k))), []) := by
  obtain ⟨L', h1, h2⟩ := for_pre (enc := pcE s) (g := gN 5) (body := (sSeq (sAs (gU 2 (gCn (gN 6) (gCn (gN 7) gNl))) (eTup (aCons (eC (.int 0)) (aCons (eC .non) aNil)))) (sSeq (sFor (itV (eMv 5)) (gN 8) (sSeq (sAs (gN 9) (eIf (etB (eIsi ["str"] (eMv 8))) (eM1 gFind (eMv 8) (sqL 2)) (eIxN 4 (eMv 8)))) (sSeq (sIf (tAn (etB (eOp gIs (eMv 7) (eC .non))) (tAn (etB (eOp gIsNot (eMv 9) (eC .non))) (etB (eOp gGe (eMv 9) (eC (.int 0)))))) (sSeq (sAs (gN 7) (eOp gAdd (eMv 6) (eMv 9))) sNx) sNx) (sSeq (sAug gIadd 6 (eIf (etB (eIsi ["str"] (eMv 8))) (e1 gLen (sqL 8)) (eIxN 3 (eMv 8)))) sNx)))) (sSeq (sEx (eApp 4 (eMv 7))) sNx))))
    (fun pre L => ∃ j5 j6 j7 j8 j9 : Slot, j5.np = true ∧ j6.np = true ∧ j7.np = true ∧ j8.np = true ∧ j9.np = true ∧ L = [.val (bkE s b), .val (.int (k : Int)), .val (.str [c]), .liv (.l ((tolds b).map lenD)), .liv (.l ((tolds pre).map fun w => plD (fst1 c w))), j5, j6, j7, j8, j9]) b []
    (L := [.val (bkE s b), .val (.int (k : Int)), .val (.str [c]), .liv (.l ((tolds b).map lenD)), .liv (.l []), .emp, .emp, .emp, .emp, .emp]) ⟨.emp, .emp, .emp, .emp, .emp, rfl, rfl, rfl, rfl, rfl, rfl⟩ (by
    rintro pre p post e L ⟨j5, j6, j7, j8, j9, n5, n6, n7, n8, n9, rfl⟩
    have hbp : b[pre.length]? = some p := by rw [show b = pre ++ p :: post from e]; simp
    have hok := Pt_T hb hbp
    have hpre : pre.length < b.length := (List.getElem?_eq_some_iff.mp hbp).1
    have hb1 := hp.1
    have tl := tolds_len pre
    have tb := tolds_len b
    have epre : pre = b.take pre.length := by rw [show b = pre ++ p :: post from e]; simp
    have eT : ∀ x ∈ p, ptT (tolds pre) x = ptT (tolds b) x := fun x hx => by rw [epre]; exact ptT_take (by omega) (hok x hx)
    obtain ⟨L2, g1, g2⟩ := for_pre (enc := ptD) (g := gN 8) (body := (sSeq (sAs (gN 9) (eIf (etB (eIsi ["str"] (eMv 8))) (eM1 gFind (eMv 8) (sqL 2)) (eIxN 4 (eMv 8)))) (sSeq (sIf (tAn (etB (eOp gIs (eMv 7) (eC .non))) (tAn (etB (eOp gIsNot (eMv 9) (eC .non))) (etB (eOp gGe (eMv 9) (eC (.int 0)))))) (sSeq (sAs (gN 7) (eOp gAdd (eMv 6) (eMv 9))) sNx) sNx) (sSeq (sAug gIadd 6 (eIf (etB (eIsi ["str"] (eMv 8))) (e1 gLen (sqL 8)) (eIxN 3 (eMv 8)))) sNx))))
      (fun pp L => ∃ j8 j9 : Slot, j8.np = true ∧ j9.np = true ∧ L = [.val (bkE s b), .val (.int (k : Int)), .val (.str [c]), .liv (.l ((tolds b).map lenD)), .liv (.l ((tolds pre).map fun w => plD (fst1 c w))), .val (pcE s p), .val (.int (((pcT (tolds pre) pp).length : Nat) : Int)), .val (plD (fst1 c (pcT (tolds pre) pp))), j8, j9]) p []
      (L := [.val (bkE s b), .val (.int (k : Int)), .val (.str [c]), .liv (.l ((tolds b).map lenD)), .liv (.l ((tolds pre).map fun w => plD (fst1 c w))), .val (pcE s p), .val (.int 0), .val .non, j8, j9]) ⟨j8, j9, n8, n9, rfl⟩ (by
      rintro pp x qq e2 L ⟨j8, j9, n8, n9, rfl⟩
      have hx : x ∈ p := by rw [show p = pp ++ x :: qq from e2]; simp
      have hxo := hok x hx
      have ep : pcT (tolds pre) (pp ++ [x]) = pcT (tolds pre) pp ++ ptT (tolds pre) x := by simp [pcT]
      have ex := eT x hx
      have ia : ∀ i j : Int, gIadd (.int i) (.int j) = some (.int (i + j)) := fun _ _ => rfl
      have own : ∃ o : D, (eIf (etB (eIsi ["str"] (eMv 8))) (eM1 gFind (eMv 8) (sqL 2)) (eIxN 4 (eMv 8))) [.val (bkE s b), .val (.int (k : Int)), .val (.str [c]), .liv (.l ((tolds b).map lenD)), .liv (.l ((tolds pre).map fun w => plD (fst1 c w))), .val (pcE s p), .val (.int (((pcT (tolds pre) pp).length : Nat) : Int)), .val (plD (fst1 c (pcT (tolds pre) pp))), .val (ptD x), j9] = some (o, [.val (bkE s b), .val (.int (k : Int)), .val (.str [c]), .liv (.l ((tolds b).map lenD)), .liv (.l ((tolds pre).map fun w => plD (fst1 c w))), .val (pcE s p), .val (.int (((pcT (tolds pre) pp).length : Nat) : Int)), .val (plD (fst1 c (pcT (tolds pre) pp))), .val (ptD x), j9]) ∧ (match fst1 c (ptT (tolds pre) x) with | some i => o = .int (i : Int) | none => o = .non ∨ o = .int (-1)) := by
        cases x with
        | t w =>
          refine ⟨.int (fi c w), by simp [-x_findS, find_fi, ptD, isiS], ?_⟩
          show (match fst1 c w with | some i => _ | none => _)
          unfold fi
          cases fst1 c w with
          | some i => rfl
          | none => exact .inr rfl
        | i j =>
          have hj : j < (tolds pre).length := by rw [tl]; exact hxo
          have ix := ix_map (fun w => plD (fst1 c w)) (tolds pre) (d := []) hj
          refine ⟨plD (fst1 c ((tolds pre).getD j [])), by simp [-List.getD_eq_getElem?_getD, ptD, isiS, ix], ?_⟩
          show (match fst1 c ((tolds pre).getD j []) with | some i => _ | none => _)
          cases fst1 c ((tolds pre).getD j []) with
          | some i => rfl
          | none => exact .inl rfl
      obtain ⟨o, ho, hoo⟩ := own
      have ln : ∀ (L : DD.Env), L[8]? = some (.val (ptD x)) → L[3]? = some (.liv (.l ((tolds b).map lenD))) → (eIf (etB (eIsi ["str"] (eMv 8))) (e1 gLen (sqL 8)) (eIxN 3 (eMv 8))) L = some (.int (((ptT (tolds pre) x).length : Nat) : Int), L) := fun L hL8 hL3 => by
        rw [ex]
        cases x with
        | t w => simp [hL8, hL3, ptD, isiS, ptT]
        | i j =>
          have hj : j < (tolds b).length := by rw [tb]; exact Nat.lt_trans hxo hpre
          have ix := ix_map lenD (tolds b) (d := []) hj
          simp [-List.getD_eq_getElem?_getD, hL8, hL3, ptD, isiS, ix, lenD, ptT]
      refine ⟨_, [.val (bkE s b), .val (.int (k : Int)), .val (.str [c]), .liv (.l ((tolds b).map lenD)), .liv (.l ((tolds pre).map fun w => plD (fst1 c w))), .val (pcE s p), .val (.int (((pcT (tolds pre) (pp ++ [x])).length : Nat) : Int)), .val (plD (fst1 c (pcT (tolds pre) (pp ++ [x])))), .val (ptD x), .val o], by simp [n8]; rfl, ?_, _, _, rfl, rfl, rfl⟩
      rw [ep, fst1_app, List.length_append]
      generalize hW : ptT (tolds pre) x = W at *
      generalize pcT (tolds pre) pp = U at *
      have st1 : sAs (gN 9) (eIf (etB (eIsi ["str"] (eMv 8))) (eM1 gFind (eMv 8) (sqL 2)) (eIxN 4 (eMv 8))) [.val (bkE s b), .val (.int (k : Int)), .val (.str [c]), .liv (.l ((tolds b).map lenD)), .liv (.l ((tolds pre).map fun w => plD (fst1 c w))), .val (pcE s p), .val (.int ((U.length : Nat) : Int)), .val (plD (fst1 c U)), .val (ptD x), j9] = some (.nx [.val (bkE s b), .val (.int (k : Int)), .val (.str [c]), .liv (.l ((tolds b).map lenD)), .liv (.l ((tolds pre).map fun w => plD (fst1 c w))), .val (pcE s p), .val (.int ((U.length : Nat) : Int)), .val (plD (fst1 c U)), .val (ptD x), .val o]) := by
        rw [x_sAs, ho]; simp [n9]
      rw [sq_nx st1]
      cases hU : fst1 c U with
      | some i =>
        have q : gIs (.int (i : Int)) .non = some (.bl false) := rfl
        simp [-x_eIf, -x_gIadd, hU, plD, q, ln, ia]
      | none =>
        have q : gIs .non .non = some (.bl true) := rfl
        cases hV : fst1 c W with
        | none =>
          rw [hV] at hoo
          rcases hoo with rfl | rfl
          · have q2 : gIsNot .non .non = some (.bl false) := rfl
            simp [-x_eIf, -x_gIadd, hU, plD, q, q2, ln, ia]
          · have q2 : gIsNot (.int (-1)) .non = some (.bl true) := rfl
            simp [-x_eIf, -x_gIadd, hU, plD, q, q2, ln, ia]
        | some i =>
          rw [hV] at hoo
          subst hoo
          have q2 : gIsNot (.int (i : Int)) .non = some (.bl true) := rfl
          simp [-x_eIf, -x_gIadd, hU, plD, q, q2, ln, ia, Int.add_comm])
    obtain ⟨j8', j9', n8', n9', rfl⟩ := g2
    rw [List.nil_append] at g1
    have hz2 : (tolds pre).length ≤ 100000 := by omega
    refine ⟨_, [.val (bkE s b), .val (.int (k : Int)), .val (.str [c]), .liv (.l ((tolds b).map lenD)), .liv (.l ((tolds (pre ++ [p])).map fun w => plD (fst1 c w))), .val (pcE s p), .val (.int (((pcT (tolds pre) p).length : Nat) : Int)), .val (plD (fst1 c (pcT (tolds pre) p))), j8', j9'], by simp [n5]; rfl, ?_, .val (pcE s p), _, _, j8', j9', rfl, rfl, rfl, n8', n9', rfl⟩
    rw [tolds_snoc, List.map_append]
    simp [-x_sSeq, n6, n7]
    rw [sq_nx (L' := [.val (bkE s b), .val (.int (k : Int)), .val (.str [c]), .liv (.l ((tolds b).map lenD)), .liv (.l ((tolds pre).map fun w => plD (fst1 c w))), .val (pcE s p), .val (.int 0), .val .non, j8, j9]) (by simp [n6, n7])]
    rw [sq_nx (by rw [x_sFor]; simp [-x_sSeq]; exact g1)]
    simp [eApp, lsOf, hz2])
  obtain ⟨j5, j6, j7, j8, j9, n5, n6, n7, n8, n9, rfl⟩ := h2
  rw [List.nil_append] at h1
  have g := ix_map (fun w => plD (fst1 c w)) (tolds b) (k := k) (d := []) (by rw [tolds_len]; exact h)
  have lg := longs_at (s := s) hb hp
  simp [-x_sSeq, V_first_place, fnD, B_first_place, startE, parIx, csAt]
  rw [sq_nx (L' := [.val (bkE s b), .val (.int (k : Int)), .val (.str [c]), .emp, .emp, .emp, .emp, .emp, .emp, .emp]) (by simp [B_first_place_0, check_piece_at h])]
  rw [sq_nx (L' := [.val (bkE s b), .val (.int (k : Int)), .val (.str [c]), .liv (.l ((tolds b).map lenD)), .liv (.l []), .emp, .emp, .emp, .emp, .emp]) (by simp [B_first_place_1, lg])]
  rw [sq_nx (by unfold B_first_place_2; rw [x_sFor]; simp [-x_sSeq]; exact h1)]
  simp [-List.getD_eq_getElem?_getD, B_first_place_3, g]
  rfl
end DG

end
section
set_option Elab.async false
set_option linter.all false
set_option maxRecDepth 100000
set_option maxHeartbeats 1000000
/-! SB4: last places in books. -/
namespace DG
open PySem PySem.Spec PyProof.Rows L2 RZ DD FM
open TL (joinL)
open Classical
theorem lst1_app (c : Nat) : ∀ (u v : List Nat), lst1 c (u ++ v) = ((lst1 c v).map (· + u.length)).or (lst1 c u)
  | [], v => by
    show lst1 c v = ((lst1 c v).map (· + 0)).or none
    cases lst1 c v <;> rfl
  | x :: u, v => by
    show (match lst1 c (u ++ v) with | some i => some (i + 1) | none => if x = c then some 0 else none) = ((lst1 c v).map (· + (u.length + 1))).or (match lst1 c u with | some i => some (i + 1) | none => if x = c then some 0 else none)
    rw [lst1_app c u v]
    cases lst1 c v with
    | none => rfl
    | some i => rfl
def li (c : Nat) (l : List Nat) : Int := match lst1 c l with | some i => (i : Int) | none => -1
theorem rfind_li {l : List Nat} {c : Nat} : gRfind l (.s [c]) = some (.int (li c l)) := rfl
theorem last_at {s : Bool} {b : List (List Pt)} {k c : Nat} (hb : BkOk b 0) (hp : Pcs b) (h : k < b.length) : V_last_place [.v (bkE s b), .v (.int (k : Int)), .v (.str [c])] = some (.v (plD (lst1 c (told b k))), []) := by
  obtain ⟨L', h1, h2⟩ := for_pre (enc := pcE s) (g := gN 5) (body := (sSeq (sAs (gU 2 (gCn (gN 6) (gCn (gN 7) gNl))) (eTup (aCons (eC (.int 0)) (aCons (eC .non) aNil)))) (sSeq (sFor (itV (eMv 5)) (gN 8) (sSeq (sAs (gN 9) (eIf (etB (eIsi ["str"] (eMv 8))) (eM1 gRfind (eMv 8) (sqL 2)) (eIxN 4 (eMv 8)))) (sSeq (sIf (tAn (etB (eOp gIsNot (eMv 9) (eC .non))) (etB (eOp gGe (eMv 9) (eC (.int 0))))) (sSeq (sAs (gN 7) (eOp gAdd (eMv 6) (eMv 9))) sNx) sNx) (sSeq (sAug gIadd 6 (eIf (etB (eIsi ["str"] (eMv 8))) (e1 gLen (sqL 8)) (eIxN 3 (eMv 8)))) sNx)))) (sSeq (sEx (eApp 4 (eMv 7))) sNx))))
    (fun pre L => ∃ j5 j6 j7 j8 j9 : Slot, j5.np = true ∧ j6.np = true ∧ j7.np = true ∧ j8.np = true ∧ j9.np = true ∧ L = [.val (bkE s b), .val (.int (k : Int)), .val (.str [c]), .liv (.l ((tolds b).map lenD)), .liv (.l ((tolds pre).map fun w => plD (lst1 c w))), j5, j6, j7, j8, j9]) b []
    (L := [.val (bkE s b), .val (.int (k : Int)), .val (.str [c]), .liv (.l ((tolds b).map lenD)), .liv (.l []), .emp, .emp, .emp, .emp, .emp]) ⟨.emp, .emp, .emp, .emp, .emp, rfl, rfl, rfl, rfl, rfl, rfl⟩ (by
    rintro pre p post e L ⟨j5, j6, j7, j8, j9, n5, n6, n7, n8, n9, rfl⟩
    have hbp : b[pre.length]? = some p := by rw [show b = pre ++ p :: post from e]; simp
    have hok := Pt_T hb hbp
    have hpre : pre.length < b.length := (List.getElem?_eq_some_iff.mp hbp).1
    have hb1 := hp.1
    have tl := tolds_len pre
    have tb := tolds_len b
    have epre : pre = b.take pre.length := by rw [show b = pre ++ p :: post from e]; simp
    have eT : ∀ x ∈ p, ptT (tolds pre) x = ptT (tolds b) x := fun x hx => by rw [epre]; exact ptT_take (by omega) (hok x hx)
    obtain ⟨L2, g1, g2⟩ := for_pre (enc := ptD) (g := gN 8) (body := (sSeq (sAs (gN 9) (eIf (etB (eIsi ["str"] (eMv 8))) (eM1 gRfind (eMv 8) (sqL 2)) (eIxN 4 (eMv 8)))) (sSeq (sIf (tAn (etB (eOp gIsNot (eMv 9) (eC .non))) (etB (eOp gGe (eMv 9) (eC (.int 0))))) (sSeq (sAs (gN 7) (eOp gAdd (eMv 6) (eMv 9))) sNx) sNx) (sSeq (sAug gIadd 6 (eIf (etB (eIsi ["str"] (eMv 8))) (e1 gLen (sqL 8)) (eIxN 3 (eMv 8)))) sNx))))
      (fun pp L => ∃ j8 j9 : Slot, j8.np = true ∧ j9.np = true ∧ L = [.val (bkE s b), .val (.int (k : Int)), .val (.str [c]), .liv (.l ((tolds b).map lenD)), .liv (.l ((tolds pre).map fun w => plD (lst1 c w))), .val (pcE s p), .val (.int (((pcT (tolds pre) pp).length : Nat) : Int)), .val (plD (lst1 c (pcT (tolds pre) pp))), j8, j9]) p []
      (L := [.val (bkE s b), .val (.int (k : Int)), .val (.str [c]), .liv (.l ((tolds b).map lenD)), .liv (.l ((tolds pre).map fun w => plD (lst1 c w))), .val (pcE s p), .val (.int 0), .val .non, j8, j9]) ⟨j8, j9, n8, n9, rfl⟩ (by
      rintro pp x qq e2 L ⟨j8, j9, n8, n9, rfl⟩
      have hx : x ∈ p := by rw [show p = pp ++ x :: qq from e2]; simp
      have hxo := hok x hx
      have ep : pcT (tolds pre) (pp ++ [x]) = pcT (tolds pre) pp ++ ptT (tolds pre) x := by simp [pcT]
      have ex := eT x hx
      have ia : ∀ i j : Int, gIadd (.int i) (.int j) = some (.int (i + j)) := fun _ _ => rfl
      have own : ∃ o : D, (eIf (etB (eIsi ["str"] (eMv 8))) (eM1 gRfind (eMv 8) (sqL 2)) (eIxN 4 (eMv 8))) [.val (bkE s b), .val (.int (k : Int)), .val (.str [c]), .liv (.l ((tolds b).map lenD)), .liv (.l ((tolds pre).map fun w => plD (lst1 c w))), .val (pcE s p), .val (.int (((pcT (tolds pre) pp).length : Nat) : Int)), .val (plD (lst1 c (pcT (tolds pre) pp))), .val (ptD x), j9] = some (o, [.val (bkE s b), .val (.int (k : Int)), .val (.str [c]), .liv (.l ((tolds b).map lenD)), .liv (.l ((tolds pre).map fun w => plD (lst1 c w))), .val (pcE s p), .val (.int (((pcT (tolds pre) pp).length : Nat) : Int)), .val (plD (lst1 c (pcT (tolds pre) pp))), .val (ptD x), j9]) ∧ (match lst1 c (ptT (tolds pre) x) with | some i => o = .int (i : Int) | none => o = .non ∨ o = .int (-1)) := by
        cases x with
        | t w =>
          refine ⟨.int (li c w), by simp [-x_rfindS, rfind_li, ptD, isiS], ?_⟩
          show (match lst1 c w with | some i => _ | none => _)
          unfold li
          cases lst1 c w with
          | some i => rfl
          | none => exact .inr rfl
        | i j =>
          have hj : j < (tolds pre).length := by rw [tl]; exact hxo
          have ix := ix_map (fun w => plD (lst1 c w)) (tolds pre) (d := []) hj
          refine ⟨plD (lst1 c ((tolds pre).getD j [])), by simp [-List.getD_eq_getElem?_getD, ptD, isiS, ix], ?_⟩
          show (match lst1 c ((tolds pre).getD j []) with | some i => _ | none => _)
          cases lst1 c ((tolds pre).getD j []) with
          | some i => rfl
          | none => exact .inl rfl
      obtain ⟨o, ho, hoo⟩ := own
      have ln : ∀ (L : DD.Env), L[8]? = some (.val (ptD x)) → L[3]? = some (.liv (.l ((tolds b).map lenD))) → (eIf (etB (eIsi ["str"] (eMv 8))) (e1 gLen (sqL 8)) (eIxN 3 (eMv 8))) L = some (.int (((ptT (tolds pre) x).length : Nat) : Int), L) := fun L hL8 hL3 => by
        rw [ex]
        cases x with
        | t w => simp [hL8, hL3, ptD, isiS, ptT]
        | i j =>
          have hj : j < (tolds b).length := by rw [tb]; exact Nat.lt_trans hxo hpre
          have ix := ix_map lenD (tolds b) (d := []) hj
          simp [-List.getD_eq_getElem?_getD, hL8, hL3, ptD, isiS, ix, lenD, ptT]
      refine ⟨_, [.val (bkE s b), .val (.int (k : Int)), .val (.str [c]), .liv (.l ((tolds b).map lenD)), .liv (.l ((tolds pre).map fun w => plD (lst1 c w))), .val (pcE s p), .val (.int (((pcT (tolds pre) (pp ++ [x])).length : Nat) : Int)), .val (plD (lst1 c (pcT (tolds pre) (pp ++ [x])))), .val (ptD x), .val o], by simp [n8]; rfl, ?_, _, _, rfl, rfl, rfl⟩
      rw [ep, lst1_app, List.length_append]
      generalize hW : ptT (tolds pre) x = W at *
      generalize pcT (tolds pre) pp = U at *
      have st1 : sAs (gN 9) (eIf (etB (eIsi ["str"] (eMv 8))) (eM1 gRfind (eMv 8) (sqL 2)) (eIxN 4 (eMv 8))) [.val (bkE s b), .val (.int (k : Int)), .val (.str [c]), .liv (.l ((tolds b).map lenD)), .liv (.l ((tolds pre).map fun w => plD (lst1 c w))), .val (pcE s p), .val (.int ((U.length : Nat) : Int)), .val (plD (lst1 c U)), .val (ptD x), j9] = some (.nx [.val (bkE s b), .val (.int (k : Int)), .val (.str [c]), .liv (.l ((tolds b).map lenD)), .liv (.l ((tolds pre).map fun w => plD (lst1 c w))), .val (pcE s p), .val (.int ((U.length : Nat) : Int)), .val (plD (lst1 c U)), .val (ptD x), .val o]) := by
        rw [x_sAs, ho]; simp [n9]
      rw [sq_nx st1]
      cases hV : lst1 c W with
      | none =>
        rw [hV] at hoo
        rcases hoo with rfl | rfl
        · have q2 : gIsNot .non .non = some (.bl false) := rfl
          simp [-x_eIf, -x_gIadd, plD, q2, ln, ia]
        · have q2 : gIsNot (.int (-1)) .non = some (.bl true) := rfl
          simp [-x_eIf, -x_gIadd, plD, q2, ln, ia]
      | some i =>
        rw [hV] at hoo
        subst hoo
        have q2 : gIsNot (.int (i : Int)) .non = some (.bl true) := rfl
        simp [-x_eIf, -x_gIadd, plD, q2, ln, ia, Int.add_comm])
    obtain ⟨j8', j9', n8', n9', rfl⟩ := g2
    rw [List.nil_append] at g1
    have hz2 : (tolds pre).length ≤ 100000 := by omega
    refine ⟨_, [.val (bkE s b), .val (.int (k : Int)), .val (.str [c]), .liv (.l ((tolds b).map lenD)), .liv (.l ((tolds (pre ++ [p])).map fun w => plD (lst1 c w))), .val (pcE s p), .val (.int (((pcT (tolds pre) p).length : Nat) : Int)), .val (plD (lst1 c (pcT (tolds pre) p))), j8', j9'], by simp [n5]; rfl, ?_, .val (pcE s p), _, _, j8', j9', rfl, rfl, rfl, n8', n9', rfl⟩
    rw [tolds_snoc, List.map_append]
    simp [-x_sSeq, n6, n7]
    rw [sq_nx (L' := [.val (bkE s b), .val (.int (k : Int)), .val (.str [c]), .liv (.l ((tolds b).map lenD)), .liv (.l ((tolds pre).map fun w => plD (lst1 c w))), .val (pcE s p), .val (.int 0), .val .non, j8, j9]) (by simp [n6, n7])]
    rw [sq_nx (by rw [x_sFor]; simp [-x_sSeq]; exact g1)]
    simp [eApp, lsOf, hz2])
  obtain ⟨j5, j6, j7, j8, j9, n5, n6, n7, n8, n9, rfl⟩ := h2
  rw [List.nil_append] at h1
  have g := ix_map (fun w => plD (lst1 c w)) (tolds b) (k := k) (d := []) (by rw [tolds_len]; exact h)
  have lg := longs_at (s := s) hb hp
  simp [-x_sSeq, V_last_place, fnD, B_last_place, startE, parIx, csAt]
  rw [sq_nx (L' := [.val (bkE s b), .val (.int (k : Int)), .val (.str [c]), .emp, .emp, .emp, .emp, .emp, .emp, .emp]) (by simp [B_last_place_0, check_piece_at h])]
  rw [sq_nx (L' := [.val (bkE s b), .val (.int (k : Int)), .val (.str [c]), .liv (.l ((tolds b).map lenD)), .liv (.l []), .emp, .emp, .emp, .emp, .emp]) (by simp [B_last_place_1, lg])]
  rw [sq_nx (by unfold B_last_place_2; rw [x_sFor]; simp [-x_sSeq]; exact h1)]
  simp [-List.getD_eq_getElem?_getD, B_last_place_3, g]
  rfl
end DG

end
section
set_option Elab.async false
set_option linter.all false
set_option maxRecDepth 100000
set_option maxHeartbeats 1000000
/-! M82: books told many times over, from behind, renamed. -/
namespace DG
open PySem PySem.Spec PyProof.Rows L2 RZ DD FM
open Classical
/-- w told t times -/
def Rt (t : Nat) (w : List Nat) : List Nat := (List.replicate t w).flatten
theorem Rt_add (s t : Nat) (w : List Nat) : Rt (s + t) w = Rt s w ++ Rt t w := by
  unfold Rt
  rw [← List.replicate_append_replicate, List.flatten_append]
theorem Rt_one (w : List Nat) : Rt 1 w = w := by simp [Rt]
theorem Rt_len (t : Nat) (w : List Nat) : (Rt t w).length = t * w.length := by
  unfold Rt
  rw [List.length_flatten, List.map_replicate, List.sum_replicate_nat]
theorem Rt_count (c t : Nat) (w : List Nat) : (Rt t w).count c = t * w.count c := by
  unfold Rt
  rw [List.count_flatten, List.map_replicate, List.sum_replicate_nat]
theorem Rt_get {t s k : Nat} {w : List Nat} (hs : s < t) (hk : k < w.length) : (Rt t w)[s * w.length + k]? = w[k]? := by
  obtain ⟨r, rfl⟩ : ∃ r, t = s + 1 + r := ⟨t - s - 1, by omega⟩
  rw [Rt_add, Rt_add, Rt_one, List.append_assoc, List.getElem?_append_right (by rw [Rt_len]; omega), Rt_len, show s * w.length + k - s * w.length = k by omega, List.getElem?_append_left hk]
theorem Rt_form : ∀ (t : Nat) (w : List Nat), form (Rt (t + 1) w) = form w
  | 0, w => by rw [Nat.zero_add, Rt_one]
  | t + 1, w => by
    rw [Rt_add (t + 1) 1, Rt_one]
    exact (form_cong (Rt_form t w) rfl).trans (form_twice w)
theorem Rt_fst (c : Nat) : ∀ (t : Nat) (w : List Nat), fst1 c (Rt (t + 1) w) = fst1 c w
  | 0, w => by rw [Nat.zero_add, Rt_one]
  | t + 1, w => by
    rw [Rt_add (t + 1) 1, Rt_one, fst1_app, Rt_fst c t w]
    cases fst1 c w <;> rfl
theorem Rt_lst (c : Nat) : ∀ (t : Nat) (w : List Nat), lst1 c (Rt (t + 1) w) = (lst1 c w).map (· + t * w.length)
  | 0, w => by
    rw [Nat.zero_add, Rt_one]
    cases lst1 c w <;> simp
  | t + 1, w => by
    rw [Rt_add (t + 1) 1, Rt_one, lst1_app, Rt_len, Rt_lst c t w]
    cases lst1 c w <;> rfl
theorem lst1_rev (c : Nat) : ∀ w : List Nat, lst1 c w = (fst1 c w.reverse).map fun i => w.length - 1 - i
  | [] => rfl
  | x :: r => by
    rw [List.reverse_cons, fst1_app]
    unfold lst1
    rw [lst1_rev c r]
    cases h : fst1 c r.reverse with
    | some i =>
      have := (fst1_some.mp h).1
      have hi : i < r.length := by have := (List.getElem?_eq_some_iff.mp this).1; simpa using this
      show some (r.length - 1 - i + 1) = some (r.length + 1 - 1 - i)
      congr 1; omega
    | none =>
      show (if x = c then some 0 else none) = Option.map _ (Option.map _ (if x = c then some 0 else (fst1 c []).map (· + 1)))
      by_cases e : x = c
      · rw [if_pos e, if_pos e]
        show some 0 = some _
        simp
      · rw [if_neg e, if_neg e]; rfl
theorem sub_Rt {t s k m : Nat} {w : List Nat} (hs : s + 3 ≤ t) (hm : k + m ≤ 3 * w.length) : sub (Rt t w) (s * w.length + k) (s * w.length + k + m) = sub (Rt 3 w) k (k + m) := by
  obtain ⟨r, rfl⟩ : ∃ r, t = s + 3 + r := ⟨t - s - 3, by omega⟩
  rw [Rt_add, Rt_add, List.append_assoc, sub_app, sub_app, Rt_len, Rt_len, sub_nil (w := Rt s w) (.inr (by rw [Rt_len]; omega)), List.nil_append, sub_nil (w := Rt r w) (.inl (by omega)), List.append_nil]
  congr 1 <;> omega
/-! ### the tall book -/
def prs (a : Nat) (k : Nat) : List Pt := [.i (a + k), .i (a + k)]
def tall (b : List (List Pt)) (a m : Nat) : List (List Pt) := b ++ (List.range m).map (prs a)
theorem tall_succ (b : List (List Pt)) (a m : Nat) : tall b a (m + 1) = tall b a m ++ [prs a m] := by
  unfold tall
  rw [List.range_succ, List.map_append, List.append_assoc]; rfl
theorem tall_len (b : List (List Pt)) (a m : Nat) : (tall b a m).length = b.length + m := by simp [tall]
theorem tall_ok {b : List (List Pt)} (hb : BkOk b 0) {a : Nat} (ha : a + 1 = b.length) : ∀ m, BkOk (tall b a m) 0
  | 0 => by simpa [tall] using hb
  | m + 1 => by
    rw [tall_succ, BkOk_app]
    refine ⟨tall_ok hb ha m, ?_, trivial⟩
    intro x hx
    have : x = .i (a + m) := by simpa [prs] using hx
    subst this
    show a + m < 0 + (tall b a m).length
    rw [tall_len]; omega
theorem tall_pcs {b : List (List Pt)} {a m : Nat} (hb : Pcs b) (hl : b.length + m ≤ 1000) : Pcs (tall b a m) := by
  refine ⟨by rw [tall_len]; exact hl, fun p hp => ?_⟩
  rcases List.mem_append.mp hp with h | h
  · exact hb.2 p h
  · obtain ⟨k, _, rfl⟩ := List.mem_map.mp h
    show 2 ≤ 1000; decide
theorem tall_told {b : List (List Pt)} (hb : BkOk b 0) {a : Nat} (ha : a + 1 = b.length) : ∀ m, told (tall b a m) (a + m) = Rt (2 ^ m) (told b a)
  | 0 => by simp [tall, Rt_one]
  | m + 1 => by
    have h1 := tall_told hb ha m
    have e : a + (m + 1) = (tall b a m).length := by rw [tall_len]; omega
    rw [tall_succ, e, told_snoc, Nat.pow_succ, Nat.mul_two, Rt_add, ← h1]
    show ([ptT (tolds (tall b a m)) (.i (a + m)), ptT (tolds (tall b a m)) (.i (a + m))]).flatten = _
    simp [ptT, told]
/-! ### from behind, renamed -/
def ptM (F : List Nat → List Nat) : Pt → Pt
  | .t w => .t (F w)
  | .i k => .i k
def backB (b : List (List Pt)) : List (List Pt) := b.map fun p => p.reverse.map (ptM List.reverse)
def namB (g : Nat → Nat) (b : List (List Pt)) : List (List Pt) := b.map fun p => p.map (ptM (List.map g))
theorem backT : ∀ (b : List (List Pt)) (T : List (List Nat)), bkT (backB b) (T.map List.reverse) = (bkT b T).map List.reverse
  | [], T => rfl
  | p :: r, T => by
    show bkT (backB r) (T.map List.reverse ++ [pcT (T.map List.reverse) (p.reverse.map (ptM List.reverse))]) = (bkT r (T ++ [pcT T p])).map List.reverse
    have e : pcT (T.map List.reverse) (p.reverse.map (ptM List.reverse)) = (pcT T p).reverse := by
      unfold pcT
      rw [List.reverse_flatten, List.map_map, List.map_map, ← List.map_reverse]
      congr 1
      refine List.map_congr_left fun x _ => ?_
      cases x with
      | t w => rfl
      | i k =>
        show (T.map List.reverse).getD k [] = (T.getD k []).reverse
        rw [List.getD_eq_getElem?_getD, List.getD_eq_getElem?_getD, List.getElem?_map]
        cases T[k]? <;> rfl
    rw [e, ← backT r, List.map_append]; rfl
theorem namT (g : Nat → Nat) : ∀ (b : List (List Pt)) (T : List (List Nat)), bkT (namB g b) (T.map (List.map g)) = (bkT b T).map (List.map g)
  | [], T => rfl
  | p :: r, T => by
    show bkT (namB g r) (T.map (List.map g) ++ [pcT (T.map (List.map g)) (p.map (ptM (List.map g)))]) = (bkT r (T ++ [pcT T p])).map (List.map g)
    have e : pcT (T.map (List.map g)) (p.map (ptM (List.map g))) = (pcT T p).map g := by
      unfold pcT
      rw [List.map_flatten, List.map_map, List.map_map]
      congr 1
      refine List.map_congr_left fun x _ => ?_
      cases x with
      | t w => rfl
      | i k =>
        show (T.map (List.map g)).getD k [] = (T.getD k []).map g
        rw [List.getD_eq_getElem?_getD, List.getD_eq_getElem?_getD, List.getElem?_map]
        cases T[k]? <;> rfl
    rw [e, ← namT g r, List.map_append]; rfl
theorem told_map (F : List Nat → List Nat) (hF : F [] = []) {b b' : List (List Pt)} (h : tolds b' = (tolds b).map F) (k : Nat) : told b' k = F (told b k) := by
  unfold told
  rw [h, List.getD_eq_getElem?_getD, List.getD_eq_getElem?_getD, List.getElem?_map]
  cases (tolds b)[k]? with
  | none => exact hF.symm
  | some w => rfl
theorem told_back (b : List (List Pt)) (k : Nat) : told (backB b) k = (told b k).reverse := told_map List.reverse rfl (backT b []) k
theorem told_nam (g : Nat → Nat) (b : List (List Pt)) (k : Nat) : told (namB g b) k = (told b k).map g := told_map (List.map g) rfl (namT g b []) k
theorem ptM_ok {F : List Nat → List Nat} (hF : ∀ w, Okw w → Okw (F w)) (hl : ∀ w, (F w).length = w.length) {n : Nat} {x : Pt} (h : PtOk n x) : PtOk n (ptM F x) := by
  cases x with
  | t w => exact ⟨hF w h.1, by rw [hl]; exact h.2⟩
  | i k => exact h
theorem backB_ok : ∀ {b : List (List Pt)} {n : Nat}, BkOk b n → BkOk (backB b) n
  | [], _, _ => trivial
  | p :: r, n, h => ⟨fun x hx => by
      obtain ⟨y, hy, rfl⟩ := List.mem_map.mp hx
      exact ptM_ok (fun w hw => hw.rev) (fun w => List.length_reverse) (h.1 y (List.mem_reverse.mp hy)), backB_ok h.2⟩
theorem namB_ok {g : Nat → Nat} (hg : ∀ w, Okw w → Okw (w.map g)) : ∀ {b : List (List Pt)} {n : Nat}, BkOk b n → BkOk (namB g b) n
  | [], _, _ => trivial
  | p :: r, n, h => ⟨fun x hx => by
      obtain ⟨y, hy, rfl⟩ := List.mem_map.mp hx
      exact ptM_ok hg (fun w => List.length_map ..) (h.1 y hy), namB_ok hg h.2⟩
theorem back_pcs {b : List (List Pt)} (h : Pcs b) : Pcs (backB b) := ⟨by rw [backB, List.length_map]; exact h.1, fun p hp => by
  obtain ⟨q, hq, rfl⟩ := List.mem_map.mp hp
  rw [List.length_map, List.length_reverse]; exact h.2 q hq⟩
theorem nam_pcs {g : Nat → Nat} {b : List (List Pt)} (h : Pcs b) : Pcs (namB g b) := ⟨by rw [namB, List.length_map]; exact h.1, fun p hp => by
  obtain ⟨q, hq, rfl⟩ := List.mem_map.mp hp
  rw [List.length_map]; exact h.2 q hq⟩
/-- how long -/
theorem told_len {b : List (List Pt)} (hb : BkOk b 0) (hw : ∀ p ∈ b, p.length ≤ 4 ∧ ∀ w, Pt.t w ∈ p → w.length ≤ 6) : ∀ (m k : Nat), k < m → (told b k).length ≤ 6 * 4 ^ (k + 1)
  | 0, k, h => absurd h (Nat.not_lt_zero _)
  | m + 1, k, hk => by
    cases e : b[k]? with
    | none =>
      have : told b k = [] := by
        unfold told
        rw [List.getD_eq_getElem?_getD, List.getElem?_eq_none (by rw [tolds_len]; exact List.getElem?_eq_none_iff.mp e)]; rfl
      rw [this]; exact Nat.zero_le _
    | some p =>
      obtain ⟨h4, h6⟩ := hw p (List.mem_of_getElem? e)
      rw [told_pc hb e]
      unfold pcT
      rw [List.length_flatten]
      have key : ∀ x ∈ p, (ptT (tolds b) x).length ≤ 6 * 4 ^ k := fun x hx => by
        have hp4 : 1 ≤ 4 ^ k := Nat.one_le_pow _ _ (by decide)
        cases x with
        | t w => have := h6 w hx; show w.length ≤ _; omega
        | i j =>
          have hj : j < k := Pt_T hb e _ hx
          have := told_len hb hw m j (by omega)
          have h2 : 4 ^ (j + 1) ≤ 4 ^ k := Nat.pow_le_pow_right (by decide) (by omega)
          have : (told b j).length ≤ 6 * 4 ^ k := by omega
          exact this
      have sm : ∀ (l : List Pt), (∀ x ∈ l, (ptT (tolds b) x).length ≤ 6 * 4 ^ k) → ((l.map (ptT (tolds b))).map List.length).sum ≤ l.length * (6 * 4 ^ k) := fun l => by
        induction l with
        | nil => intro _; exact Nat.zero_le _
        | cons x r ih =>
          intro h
          have h1 := h x List.mem_cons_self
          have h2 := ih fun y hy => h y (List.mem_cons_of_mem _ hy)
          rw [List.map_cons, List.map_cons, List.sum_cons, List.length_cons, Nat.add_mul]; omega
      have := sm p key
      have h5 : p.length * (6 * 4 ^ k) ≤ 4 * (6 * 4 ^ k) := Nat.mul_le_mul_right _ h4
      rw [Nat.pow_succ]; omega
end DG

end
section
set_option Elab.async false
set_option linter.all false
set_option maxRecDepth 100000
set_option maxHeartbeats 4000000
namespace DG
open PySem PySem.Spec PyProof.Rows L2 RZ DD
noncomputable def B__law_box : SV := (sSeq (sAs (gN 2) (eIf (etB (eOp gLt (eMv 1) (e1 gLen (sqL 0)))) (eIxN 0 (eMv 1)) (eC (.int 0)))) (sSeq (sRetO (oLst (aCons (eOp gMul (e1 gAbs (sqL 2)) (e1 gInt (sqV (eOp gGe (e1 gAbs (sqL 2)) (eOp gPow (eC (.int 10)) (eC (.int 18))))))) (aCons (eOp gAdd (eOp gAdd (eOp gMod (e1 gInt (sqL 2)) (eC (.int 2305843009213693951))) (eOp gMul (eC (.int 39373)) (eMv 1))) (eC (.int 24230082))) (aCons (eC (.int 0)) aNil))))) sNx))
noncomputable def B__law_right_0 (c__law_take c__law_letters c__law_book c__law_told c__law_lists c_form_in c__law_form c_long_of c__law_same c__law_of c_alike_pieces c_how_often c_form_between c_stretch_of c_letter_at c_last_place c_first_place c_product c__law_pick c_renamed c_form_renamed c_form_back : Fn) : SV := (sAs (gN 1) (eCall c__law_letters (gS 0 (gV (eOp gAdd (eC (.int 1)) (eCall c__law_take (gS 0 (gV (eC (.int 5)) gNil0)))) gNil0))))
noncomputable def B__law_right_1 (c__law_take c__law_letters c__law_book c__law_told c__law_lists c_form_in c__law_form c_long_of c__law_same c__law_of c_alike_pieces c_how_often c_form_between c_stretch_of c_letter_at c_last_place c_first_place c_product c__law_pick c_renamed c_form_renamed c_form_back : Fn) : SV := (sAs (gN 2) (eCall c__law_book (gS 0 (gV (eMv 1) gNil0))))
noncomputable def B__law_right_2 (c__law_take c__law_letters c__law_book c__law_told c__law_lists c_form_in c__law_form c_long_of c__law_same c__law_of c_alike_pieces c_how_often c_form_between c_stretch_of c_letter_at c_last_place c_first_place c_product c__law_pick c_renamed c_form_renamed c_form_back : Fn) : SV := (sAs (gN 3) (eOp gSub (e1 gLen (sqL 2)) (eC (.int 1))))
noncomputable def B__law_right_3 (c__law_take c__law_letters c__law_book c__law_told c__law_lists c_form_in c__law_form c_long_of c__law_same c__law_of c_alike_pieces c_how_often c_form_between c_stretch_of c_letter_at c_last_place c_first_place c_product c__law_pick c_renamed c_form_renamed c_form_back : Fn) : SV := (sAs (gN 4) (eCall c__law_told (gV (eMv 2) (gV (eMv 3) gNil0))))
noncomputable def B__law_right_4 (c__law_take c__law_letters c__law_book c__law_told c__law_lists c_form_in c__law_form c_long_of c__law_same c__law_of c_alike_pieces c_how_often c_form_between c_stretch_of c_letter_at c_last_place c_first_place c_product c__law_pick c_renamed c_form_renamed c_form_back : Fn) : SV := (sIf (etB (eOp gGt (e1 gLen (sqL 4)) (eC (.int 300)))) (sSeq (sRet (eC (.bl true))) sNx) sNx)
noncomputable def B__law_right_5 (c__law_take c__law_letters c__law_book c__law_told c__law_lists c_form_in c__law_form c_long_of c__law_same c__law_of c_alike_pieces c_how_often c_form_between c_stretch_of c_letter_at c_last_place c_first_place c_product c__law_pick c_renamed c_form_renamed c_form_back : Fn) : SV := (sAs (gN 5) (eCall c_form_in (gV (eCall c__law_lists (gV (eMv 2) gNil0)) (gV (eMv 3) gNil0))))
noncomputable def B__law_right_6 (c__law_take c__law_letters c__law_book c__law_told c__law_lists c_form_in c__law_form c_long_of c__law_same c__law_of c_alike_pieces c_how_often c_form_between c_stretch_of c_letter_at c_last_place c_first_place c_product c__law_pick c_renamed c_form_renamed c_form_back : Fn) : SV := (sIf (tNo (etB (eCall c__law_same (gV (eFz (oLst (aCons (eMv 5) (aCons (eCall c_long_of (gV (eMv 2) (gV (eMv 3) gNil0))) aNil)))) (gV (eFz (oLst (aCons (eCall c__law_form (gV (eMv 4) gNil0)) (aCons (e1 gLen (sqL 4)) aNil)))) gNil0))))) (sSeq (sRet (eC (.bl false))) sNx) sNx)
noncomputable def B__law_right_7 (c__law_take c__law_letters c__law_book c__law_told c__law_lists c_form_in c__law_form c_long_of c__law_same c__law_of c_alike_pieces c_how_often c_form_between c_stretch_of c_letter_at c_last_place c_first_place c_product c__law_pick c_renamed c_form_renamed c_form_back : Fn) : SV := (sAs (gN 6) (eOp gAdd (eC (.int 40)) (eCall c__law_take (gS 0 (gV (eC (.int 50)) gNil0)))))
noncomputable def B__law_right_8 (c__law_take c__law_letters c__law_book c__law_told c__law_lists c_form_in c__law_form c_long_of c__law_same c__law_of c_alike_pieces c_how_often c_form_between c_stretch_of c_letter_at c_last_place c_first_place c_product c__law_pick c_renamed c_form_renamed c_form_back : Fn) : SV := (sAs (gN 8) (eOp gAdd (eMv 2) (e1 gTup (sqO (oLc (itR1 (eMv 6)) (gN 7) etT (eTup (aCons (eOp gAdd (eMv 3) (eMv 7)) (aCons (eOp gAdd (eMv 3) (eMv 7)) aNil))) [7])))))
noncomputable def B__law_right_9 (c__law_take c__law_letters c__law_book c__law_told c__law_lists c_form_in c__law_form c_long_of c__law_same c__law_of c_alike_pieces c_how_often c_form_between c_stretch_of c_letter_at c_last_place c_first_place c_product c__law_pick c_renamed c_form_renamed c_form_back : Fn) : SV := (sPar [9, 10] (gV (eOp gAdd (eMv 3) (eMv 6)) (gV (eOp gPow (eC (.int 2)) (eC (.int 40))) gNil0)))
noncomputable def B__law_right_10 (c__law_take c__law_letters c__law_book c__law_told c__law_lists c_form_in c__law_form c_long_of c__law_same c__law_of c_alike_pieces c_how_often c_form_between c_stretch_of c_letter_at c_last_place c_first_place c_product c__law_pick c_renamed c_form_renamed c_form_back : Fn) : SV := (sFor (itR1 (eOp gSub (eMv 6) (eC (.int 40)))) (gN 11) (sSeq (sAs (gN 10) (eOp gMul (eMv 10) (eC (.int 2)))) sNx))
noncomputable def B__law_right_11 (c__law_take c__law_letters c__law_book c__law_told c__law_lists c_form_in c__law_form c_long_of c__law_same c__law_of c_alike_pieces c_how_often c_form_between c_stretch_of c_letter_at c_last_place c_first_place c_product c__law_pick c_renamed c_form_renamed c_form_back : Fn) : SV := (sAs (gN 12) (eCall c__law_of (gS 0 (gV (eFz (o1 gList (sqL 1))) gNil0))))
noncomputable def B__law_right_12 (c__law_take c__law_letters c__law_book c__law_told c__law_lists c_form_in c__law_form c_long_of c__law_same c__law_of c_alike_pieces c_how_often c_form_between c_stretch_of c_letter_at c_last_place c_first_place c_product c__law_pick c_renamed c_form_renamed c_form_back : Fn) : SV := (sAs (gN 13) (eFz (oLst (aCons (eCall c_long_of (gV (eMv 8) (gV (eMv 9) gNil0))) (aCons (eCall c_how_often (gV (eMv 8) (gV (eMv 9) (gV (eMv 12) gNil0)))) (aCons (eCall c_form_in (gV (eMv 8) (gV (eMv 9) gNil0))) (aCons (eCall c_alike_pieces (gV (eMv 8) (gV (eMv 9) (gV (eMv 3) gNil0)))) aNil)))))))
noncomputable def B__law_right_13 (c__law_take c__law_letters c__law_book c__law_told c__law_lists c_form_in c__law_form c_long_of c__law_same c__law_of c_alike_pieces c_how_often c_form_between c_stretch_of c_letter_at c_last_place c_first_place c_product c__law_pick c_renamed c_form_renamed c_form_back : Fn) : SV := (sIf (tNo (etB (eCall c__law_same (gV (eMv 13) (gV (eFz (oLst (aCons (eOp gMul (e1 gLen (sqL 4)) (eMv 10)) (aCons (eOp gMul (eM1 gCount (eMv 4) (sqL 12)) (eMv 10)) (aCons (eMv 5) (aCons (eC (.bl true)) aNil)))))) gNil0))))) (sSeq (sRet (eC (.bl false))) sNx) sNx)
noncomputable def B__law_right_14 (c__law_take c__law_letters c__law_book c__law_told c__law_lists c_form_in c__law_form c_long_of c__law_same c__law_of c_alike_pieces c_how_often c_form_between c_stretch_of c_letter_at c_last_place c_first_place c_product c__law_pick c_renamed c_form_renamed c_form_back : Fn) : SV := (sIf (etB (eOp gNe (eMv 4) (eC (.str [])))) (sSeq (sAs (gN 14) (eOp gMod (eOp gAdd (eOp gMul (eCall c__law_take (gS 0 (gV (eOp gPow (eC (.int 10)) (eC (.int 9))) gNil0))) (eC (.int 997))) (eCall c__law_take (gS 0 (gV (eOp gPow (eC (.int 10)) (eC (.int 9))) gNil0)))) (eMv 10))) (sSeq (sAs (gN 7) (eCall c__law_take (gS 0 (gV (e1 gLen (sqL 4)) gNil0)))) (sSeq (sAs (gN 15) (eOp gAdd (eOp gMul (eMv 14) (e1 gLen (sqL 4))) (eMv 7))) (sSeq (sAs (gN 16) (eIf (etB (eOpS (gIn false) (eMv 12) (sqL 4))) (eM1 gFind (eMv 4) (sqL 12)) (eC .non))) (sSeq (sAs (gN 17) (eIf (etB (eOpS (gIn false) (eMv 12) (sqL 4))) (eOp gSub (eOp gSub (eOp gMul (e1 gLen (sqL 4)) (eMv 10)) (eC (.int 1))) (eM1 gFind (eRev (eMv 4)) (sqL 12))) (eC .non))) (sSeq (sAs (gN 13) (eFz (oLst (aCons (eCall c_letter_at (gV (eMv 8) (gV (eMv 9) (gV (eMv 15) gNil0)))) (aCons (eCall c_first_place (gV (eMv 8) (gV (eMv 9) (gV (eMv 12) gNil0)))) (aCons (eCall c_last_place (gV (eMv 8) (gV (eMv 9) (gV (eMv 12) gNil0)))) (aCons (eCall c_letter_at (gV (eMv 8) (gV (eMv 9) (gV (eOp gMul (e1 gLen (sqL 4)) (eMv 10)) gNil0)))) aNil))))))) (sSeq (sIf (tNo (etB (eCall c__law_same (gV (eMv 13) (gV (eFz (oLst (aCons (eIxN 4 (eMv 7)) (aCons (eMv 16) (aCons (eMv 17) (aCons (eC .non) aNil)))))) gNil0))))) (sSeq (sRet (eC (.bl false))) sNx) sNx) (sSeq (sAs (gN 18) (eSl (eOp gMul (eMv 4) (eC (.int 3))) (pOf (eMv 7)) (pOf (eOp gAdd (eOp gAdd (eMv 7) (e1 gLen (sqL 4))) (eC (.int 2)))))) (sSeq (sAs (gN 13) (eFz (oLst (aCons (eCall c_stretch_of (gV (eMv 8) (gV (eMv 9) (gV (eMv 15) (gV (e1 gLen (sqL 18)) gNil0))))) (aCons (eCall c_form_between (gV (eMv 8) (gV (eMv 9) (gV (eMv 15) (gV (eOp gAdd (eMv 15) (e1 gLen (sqL 18))) gNil0))))) aNil))))) (sSeq (sIf (tAn (etB (eOp gLt (eOp gAdd (eMv 14) (eC (.int 3))) (eMv 10))) (tNo (etB (eCall c__law_same (gV (eMv 13) (gV (eFz (oLst (aCons (eMv 18) (aCons (eCall c__law_form (gV (eMv 18) gNil0)) aNil)))) gNil0)))))) (sSeq (sRet (eC (.bl false))) sNx) sNx) sNx)))))))))) sNx)
noncomputable def B__law_right_15 (c__law_take c__law_letters c__law_book c__law_told c__law_lists c_form_in c__law_form c_long_of c__law_same c__law_of c_alike_pieces c_how_often c_form_between c_stretch_of c_letter_at c_last_place c_first_place c_product c__law_pick c_renamed c_form_renamed c_form_back : Fn) : SV := (sPar [19, 20] (gV (eCall c__law_take (gS 0 (gV (eOp gAdd (eMv 3) (eC (.int 1))) gNil0))) (gV (eCall c__law_take (gS 0 (gV (eOp gAdd (eMv 3) (eC (.int 1))) gNil0))) gNil0)))
noncomputable def B__law_right_16 (c__law_take c__law_letters c__law_book c__law_told c__law_lists c_form_in c__law_form c_long_of c__law_same c__law_of c_alike_pieces c_how_often c_form_between c_stretch_of c_letter_at c_last_place c_first_place c_product c__law_pick c_renamed c_form_renamed c_form_back : Fn) : SV := (sAs (gN 21) (eOp gAdd (eMv 2) (eTup (aCons (eTup (aCons (eMv 19) (aCons (eMv 20) aNil))) aNil))))
noncomputable def B__law_right_17 (c__law_take c__law_letters c__law_book c__law_told c__law_lists c_form_in c__law_form c_long_of c__law_same c__law_of c_alike_pieces c_how_often c_form_between c_stretch_of c_letter_at c_last_place c_first_place c_product c__law_pick c_renamed c_form_renamed c_form_back : Fn) : SV := (sIf (tNo (etB (eCall c__law_same (gV (eCall c_form_in (gV (eMv 21) (gV (eOp gAdd (eMv 3) (eC (.int 1))) gNil0))) (gV (eCall c_product (gV (eCall c_form_in (gV (eMv 2) (gV (eMv 19) gNil0))) (gV (eCall c_form_in (gV (eMv 2) (gV (eMv 20) gNil0))) gNil0))) gNil0))))) (sSeq (sRet (eC (.bl false))) sNx) sNx)
noncomputable def B__law_right_18 (c__law_take c__law_letters c__law_book c__law_told c__law_lists c_form_in c__law_form c_long_of c__law_same c__law_of c_alike_pieces c_how_often c_form_between c_stretch_of c_letter_at c_last_place c_first_place c_product c__law_pick c_renamed c_form_renamed c_form_back : Fn) : SV := (sAs (gN 22) (e1 gTup (sqO (oLc (itV (eMv 2)) (gN 27) etT (e1 gTup (sqO (oLc (itV (eRev (eMv 27))) (gN 28) etT (eIf (etB (eIsi ["int"] (eMv 28))) (eMv 28) (eRev (eMv 28))) [28]))) [27]))))
noncomputable def B__law_right_19 (c__law_take c__law_letters c__law_book c__law_told c__law_lists c_form_in c__law_form c_long_of c__law_same c__law_of c_alike_pieces c_how_often c_form_between c_stretch_of c_letter_at c_last_place c_first_place c_product c__law_pick c_renamed c_form_renamed c_form_back : Fn) : SV := (sAs (gN 23) (eM1 gJoin (eC (.str [])) (sqO (oCall c__law_pick (gS 0 (gV (eFz (o1 gList (sqV (eC (.str [97, 98, 99, 100, 101, 102, 103, 104]))))) (gV (eC (.int 8)) gNil0)))))))
noncomputable def B__law_right_20 (c__law_take c__law_letters c__law_book c__law_told c__law_lists c_form_in c__law_form c_long_of c__law_same c__law_of c_alike_pieces c_how_often c_form_between c_stretch_of c_letter_at c_last_place c_first_place c_product c__law_pick c_renamed c_form_renamed c_form_back : Fn) : SV := (sAs (gN 24) (e1 gTup (sqO (oLc (itV (eMv 2)) (gN 27) etT (e1 gTup (sqO (oLc (itV (eMv 27)) (gN 28) etT (eIf (etB (eIsi ["int"] (eMv 28))) (eMv 28) (eCall c_renamed (gV (eMv 28) (gV (eC (.str [97, 98, 99, 100, 101, 102, 103, 104])) (gV (eMv 23) gNil0))))) [28]))) [27]))))
noncomputable def B__law_right_21 (c__law_take c__law_letters c__law_book c__law_told c__law_lists c_form_in c__law_form c_long_of c__law_same c__law_of c_alike_pieces c_how_often c_form_between c_stretch_of c_letter_at c_last_place c_first_place c_product c__law_pick c_renamed c_form_renamed c_form_back : Fn) : SV := (sAs (gN 15) (eCall c__law_take (gS 0 (gV (eOp gAdd (e1 gLen (sqL 4)) (eC (.int 1))) gNil0))))
noncomputable def B__law_right_22 (c__law_take c__law_letters c__law_book c__law_told c__law_lists c_form_in c__law_form c_long_of c__law_same c__law_of c_alike_pieces c_how_often c_form_between c_stretch_of c_letter_at c_last_place c_first_place c_product c__law_pick c_renamed c_form_renamed c_form_back : Fn) : SV := (sAs (gN 25) (eCall c_letter_at (gV (eMv 2) (gV (eMv 3) (gV (eMv 15) gNil0)))))
noncomputable def B__law_right_23 (c__law_take c__law_letters c__law_book c__law_told c__law_lists c_form_in c__law_form c_long_of c__law_same c__law_of c_alike_pieces c_how_often c_form_between c_stretch_of c_letter_at c_last_place c_first_place c_product c__law_pick c_renamed c_form_renamed c_form_back : Fn) : SV := (sAs (gN 13) (eFz (oLst (aCons (eCall c_form_in (gV (eMv 22) (gV (eMv 3) gNil0))) (aCons (eCall c_letter_at (gV (eMv 22) (gV (eMv 3) (gV (eOp gSub (eOp gSub (e1 gLen (sqL 4)) (eC (.int 1))) (eMv 15)) gNil0)))) (aCons (eCall c_form_in (gV (eMv 24) (gV (eMv 3) gNil0))) (aCons (eCall c_letter_at (gV (eMv 24) (gV (eMv 3) (gV (eMv 15) gNil0)))) aNil)))))))
noncomputable def B__law_right_24 (c__law_take c__law_letters c__law_book c__law_told c__law_lists c_form_in c__law_form c_long_of c__law_same c__law_of c_alike_pieces c_how_often c_form_between c_stretch_of c_letter_at c_last_place c_first_place c_product c__law_pick c_renamed c_form_renamed c_form_back : Fn) : SV := (sAs (gN 26) (eFz (oLst (aCons (eCall c_form_back (gV (eMv 5) gNil0)) (aCons (eMv 25) (aCons (eCall c_form_renamed (gV (eMv 5) (gV (eC (.str [97, 98, 99, 100, 101, 102, 103, 104])) (gV (eMv 23) gNil0)))) (aCons (eIf (etB (eOp gIs (eMv 25) (eC .non))) (eC .non) (eIxN 23 (eM1 gIndex (eC (.str [97, 98, 99, 100, 101, 102, 103, 104])) (sqL 25)))) aNil)))))))
noncomputable def B__law_right_25 (c__law_take c__law_letters c__law_book c__law_told c__law_lists c_form_in c__law_form c_long_of c__law_same c__law_of c_alike_pieces c_how_often c_form_between c_stretch_of c_letter_at c_last_place c_first_place c_product c__law_pick c_renamed c_form_renamed c_form_back : Fn) : SV := (sRet (eCall c__law_same (gV (eMv 13) (gV (eMv 26) gNil0))))
noncomputable def B__law_right (c__law_take c__law_letters c__law_book c__law_told c__law_lists c_form_in c__law_form c_long_of c__law_same c__law_of c_alike_pieces c_how_often c_form_between c_stretch_of c_letter_at c_last_place c_first_place c_product c__law_pick c_renamed c_form_renamed c_form_back : Fn) : SV := (sSeq (B__law_right_0 c__law_take c__law_letters c__law_book c__law_told c__law_lists c_form_in c__law_form c_long_of c__law_same c__law_of c_alike_pieces c_how_often c_form_between c_stretch_of c_letter_at c_last_place c_first_place c_product c__law_pick c_renamed c_form_renamed c_form_back) (sSeq (B__law_right_1 c__law_take c__law_letters c__law_book c__law_told c__law_lists c_form_in c__law_form c_long_of c__law_same c__law_of c_alike_pieces c_how_often c_form_between c_stretch_of c_letter_at c_last_place c_first_place c_product c__law_pick c_renamed c_form_renamed c_form_back) (sSeq (B__law_right_2 c__law_take c__law_letters c__law_book c__law_told c__law_lists c_form_in c__law_form c_long_of c__law_same c__law_of c_alike_pieces c_how_often c_form_between c_stretch_of c_letter_at c_last_place c_first_place c_product c__law_pick c_renamed c_form_renamed c_form_back) (sSeq (B__law_right_3 c__law_take c__law_letters c__law_book c__law_told c__law_lists c_form_in c__law_form c_long_of c__law_same c__law_of c_alike_pieces c_how_often c_form_between c_stretch_of c_letter_at c_last_place c_first_place c_product c__law_pick c_renamed c_form_renamed c_form_back) (sSeq (B__law_right_4 c__law_take c__law_letters c__law_book c__law_told c__law_lists c_form_in c__law_form c_long_of c__law_same c__law_of c_alike_pieces c_how_often c_form_between c_stretch_of c_letter_at c_last_place c_first_place c_product c__law_pick c_renamed c_form_renamed c_form_back) (sSeq (B__law_right_5 c__law_take c__law_letters c__law_book c__law_told c__law_lists c_form_in c__law_form c_long_of c__law_same c__law_of c_alike_pieces c_how_often c_form_between c_stretch_of c_letter_at c_last_place c_first_place c_product c__law_pick c_renamed c_form_renamed c_form_back) (sSeq (B__law_right_6 c__law_take c__law_letters c__law_book c__law_told c__law_lists c_form_in c__law_form c_long_of c__law_same c__law_of c_alike_pieces c_how_often c_form_between c_stretch_of c_letter_at c_last_place c_first_place c_product c__law_pick c_renamed c_form_renamed c_form_back) (sSeq (B__law_right_7 c__law_take c__law_letters c__law_book c__law_told c__law_lists c_form_in c__law_form c_long_of c__law_same c__law_of c_alike_pieces c_how_often c_form_between c_stretch_of c_letter_at c_last_place c_first_place c_product c__law_pick c_renamed c_form_renamed c_form_back) (sSeq (B__law_right_8 c__law_take c__law_letters c__law_book c__law_told c__law_lists c_form_in c__law_form c_long_of c__law_same c__law_of c_alike_pieces c_how_often c_form_between c_stretch_of c_letter_at c_last_place c_first_place c_product c__law_pick c_renamed c_form_renamed c_form_back) (sSeq (B__law_right_9 c__law_take c__law_letters c__law_book c__law_told c__law_lists c_form_in c__law_form c_long_of c__law_same c__law_of c_alike_pieces c_how_often c_form_between c_stretch_of c_letter_at c_last_place c_first_place c_product c__law_pick c_renamed c_form_renamed c_form_back) (sSeq (B__law_right_10 c__law_take c__law_letters c__law_book c__law_told c__law_lists c_form_in c__law_form c_long_of c__law_same c__law_of c_alike_pieces c_how_often c_form_between c_stretch_of c_letter_at c_last_place c_first_place c_product c__law_pick c_renamed c_form_renamed c_form_back) (sSeq (B__law_right_11 c__law_take c__law_letters c__law_book c__law_told c__law_lists c_form_in c__law_form c_long_of c__law_same c__law_of c_alike_pieces c_how_often c_form_between c_stretch_of c_letter_at c_last_place c_first_place c_product c__law_pick c_renamed c_form_renamed c_form_back) (sSeq (B__law_right_12 c__law_take c__law_letters c__law_book c__law_told c__law_lists c_form_in c__law_form c_long_of c__law_same c__law_of c_alike_pieces c_how_often c_form_between c_stretch_of c_letter_at c_last_place c_first_place c_product c__law_pick c_renamed c_form_renamed c_form_back) (sSeq (B__law_right_13 c__law_take c__law_letters c__law_book c__law_told c__law_lists c_form_in c__law_form c_long_of c__law_same c__law_of c_alike_pieces c_how_often c_form_between c_stretch_of c_letter_at c_last_place c_first_place c_product c__law_pick c_renamed c_form_renamed c_form_back) (sSeq (B__law_right_14 c__law_take c__law_letters c__law_book c__law_told c__law_lists c_form_in c__law_form c_long_of c__law_same c__law_of c_alike_pieces c_how_often c_form_between c_stretch_of c_letter_at c_last_place c_first_place c_product c__law_pick c_renamed c_form_renamed c_form_back) (sSeq (B__law_right_15 c__law_take c__law_letters c__law_book c__law_told c__law_lists c_form_in c__law_form c_long_of c__law_same c__law_of c_alike_pieces c_how_often c_form_between c_stretch_of c_letter_at c_last_place c_first_place c_product c__law_pick c_renamed c_form_renamed c_form_back) (sSeq (B__law_right_16 c__law_take c__law_letters c__law_book c__law_told c__law_lists c_form_in c__law_form c_long_of c__law_same c__law_of c_alike_pieces c_how_often c_form_between c_stretch_of c_letter_at c_last_place c_first_place c_product c__law_pick c_renamed c_form_renamed c_form_back) (sSeq (B__law_right_17 c__law_take c__law_letters c__law_book c__law_told c__law_lists c_form_in c__law_form c_long_of c__law_same c__law_of c_alike_pieces c_how_often c_form_between c_stretch_of c_letter_at c_last_place c_first_place c_product c__law_pick c_renamed c_form_renamed c_form_back) (sSeq (B__law_right_18 c__law_take c__law_letters c__law_book c__law_told c__law_lists c_form_in c__law_form c_long_of c__law_same c__law_of c_alike_pieces c_how_often c_form_between c_stretch_of c_letter_at c_last_place c_first_place c_product c__law_pick c_renamed c_form_renamed c_form_back) (sSeq (B__law_right_19 c__law_take c__law_letters c__law_book c__law_told c__law_lists c_form_in c__law_form c_long_of c__law_same c__law_of c_alike_pieces c_how_often c_form_between c_stretch_of c_letter_at c_last_place c_first_place c_product c__law_pick c_renamed c_form_renamed c_form_back) (sSeq (B__law_right_20 c__law_take c__law_letters c__law_book c__law_told c__law_lists c_form_in c__law_form c_long_of c__law_same c__law_of c_alike_pieces c_how_often c_form_between c_stretch_of c_letter_at c_last_place c_first_place c_product c__law_pick c_renamed c_form_renamed c_form_back) (sSeq (B__law_right_21 c__law_take c__law_letters c__law_book c__law_told c__law_lists c_form_in c__law_form c_long_of c__law_same c__law_of c_alike_pieces c_how_often c_form_between c_stretch_of c_letter_at c_last_place c_first_place c_product c__law_pick c_renamed c_form_renamed c_form_back) (sSeq (B__law_right_22 c__law_take c__law_letters c__law_book c__law_told c__law_lists c_form_in c__law_form c_long_of c__law_same c__law_of c_alike_pieces c_how_often c_form_between c_stretch_of c_letter_at c_last_place c_first_place c_product c__law_pick c_renamed c_form_renamed c_form_back) (sSeq (B__law_right_23 c__law_take c__law_letters c__law_book c__law_told c__law_lists c_form_in c__law_form c_long_of c__law_same c__law_of c_alike_pieces c_how_often c_form_between c_stretch_of c_letter_at c_last_place c_first_place c_product c__law_pick c_renamed c_form_renamed c_form_back) (sSeq (B__law_right_24 c__law_take c__law_letters c__law_book c__law_told c__law_lists c_form_in c__law_form c_long_of c__law_same c__law_of c_alike_pieces c_how_often c_form_between c_stretch_of c_letter_at c_last_place c_first_place c_product c__law_pick c_renamed c_form_renamed c_form_back) (sSeq (B__law_right_25 c__law_take c__law_letters c__law_book c__law_told c__law_lists c_form_in c__law_form c_long_of c__law_same c__law_of c_alike_pieces c_how_often c_form_between c_stretch_of c_letter_at c_last_place c_first_place c_product c__law_pick c_renamed c_form_renamed c_form_back) sNx))))))))))))))))))))))))))
noncomputable def B_law (c__law_cells c__law_right c__law_box : Fn) : SV := (sSeq (sAs (gN 1) (eFz (oCall c__law_cells (gV (eMv 0) (gV (eC (.int 2)) gNil0))))) (sSeq (sFor (itR1 (e1 gLen (sqL 1))) (gN 2) (sSeq (sOw 3 (oCall c__law_box (gV (eMv 1) (gV (eMv 2) gNil0)))) (sSeq (sIf (tNo (etB (e1 gAll (sqO (oLc (itR1 (eC (.int 6))) (gN 4) etT (eCall c__law_right (gS 3 gNil0)) [4]))))) (sSeq (sRet (eC (.bl false))) sNx) sNx) sNx))) (sSeq (sRet (eC (.bl true))) sNx)))
end DG

end
section
set_option Elab.async false
set_option linter.all false
set_option maxRecDepth 100000
set_option maxHeartbeats 4000000
namespace DG
open PySem PySem.Spec PyProof.Rows L2 RZ DD
noncomputable def V__law_box : Fn := fnD 3 2 (B__law_box)
noncomputable def V__law_right : Fn := fnD 29 1 (B__law_right G_take G_letters V__law_book (V__law_told 12) (V__law_lists 12) V_form_in (G_lform 9) V_long_of (G_same 12) G_of V_alike_pieces V_how_often V_form_between V_stretch_of V_letter_at V_last_place V_first_place G_product G_pick G_renamed G_form_renamed G_form_back)
noncomputable def V_law : Fn := fnD 5 1 (B_law V__law_cells V__law_right V__law_box)
end DG

end
section
set_option Elab.async false
set_option linter.all false
set_option maxRecDepth 100000
set_option maxHeartbeats 1000000
/-! N82: the law k82: drawn books, told, as lists. -/
namespace DG
open PySem PySem.Spec PyProof.Rows L2 RZ DD FM
open TL (joinL)
open Classical
def Ptk (n : Nat) (x : Pt) : Prop := PtOk n x ∧ ∀ w, x = .t w → w.length ≤ 6
theorem parts_at {ls : List Nat} (hls : Okw ls) (hl : ls.length ≤ 8) {k : Nat} (hk : k ≤ 10) (d1 : D) (s2 s4 : Slot) : ∀ (ds : List D) (c : List D) (N : Nat), Box c N → N + 10 * ds.length < 2 ^ 40 → ∃ (ps : List Pt) (c' : List D), (∀ x ∈ ps, Ptk k x) ∧ ps.length = ds.length ∧ Box c' (N + 10 * ds.length) ∧
    lcD (gN 5) etT (eIf (tAn (etB (eOp gGt (eMv 3) (eC (.int 0)))) (etB (eOp gEq (eCall G_take (gS 0 (gV (eC (.int 2)) gNil0))) (eC (.int 0))))) (eCall G_take (gS 0 (gV (eMv 3) gNil0))) (eCall G_plan (gS 0 (gV (eMv 1) (gV (eC (.int 6)) gNil0))))) [5] ds [.par (.l c), .val (.str ls), s2, .val (.int (k : Int)), s4, .emp]
      = some (ps.map ptD, [.par (.l c'), .val (.str ls), s2, .val (.int (k : Int)), s4, .emp])
  | [], c, N, hB, _ => ⟨[], c, (fun x h => nomatch h), rfl, hB, rfl⟩
  | d :: ds, c, N, hB, hN => by
    rw [List.length_cons] at hN
    have one : ∃ x c1, Ptk k x ∧ Box c1 (N + 10) ∧ (eIf (tAn (etB (eOp gGt (eMv 3) (eC (.int 0)))) (etB (eOp gEq (eCall G_take (gS 0 (gV (eC (.int 2)) gNil0))) (eC (.int 0))))) (eCall G_take (gS 0 (gV (eMv 3) gNil0))) (eCall G_plan (gS 0 (gV (eMv 1) (gV (eC (.int 6)) gNil0))))) [.par (.l c), .val (.str ls), s2, .val (.int (k : Int)), s4, .val d]
        = some (ptD x, [.par (.l c1), .val (.str ls), s2, .val (.int (k : Int)), s4, .val d]) := by
      obtain ⟨w, cw, hw, hw2, hw3, hwB⟩ := plan_t (ls := ls) (k := 6) hB (by omega) (by decide) (by decide) (by have : (6 : Int).toNat = 6 := rfl; omega)
      obtain ⟨v, c1, h1, b1, k1, k2⟩ := take_at (n := 2) hB (by omega) (by decide) (by decide)
      have pl : ∀ {u : List Nat} {n : Nat}, (∀ x ∈ u, x ∈ ls) → u.length ≤ (6 : Int).toNat → Ptk n (.t u) := fun {u n} h1 h2 => ⟨⟨fun x hx => hls x (h1 x hx), by have : (6 : Int).toNat = 6 := rfl; omega⟩, fun w e => by cases e; exact h2⟩
      by_cases hk0 : 0 < k
      · by_cases hv : v = 0
        · subst hv
          obtain ⟨j, c2, h2, b2, j1, j2⟩ := take_at (n := (k : Int)) b1 (by omega) (by omega) (by omega)
          refine ⟨.i j.toNat, c2, ⟨(by show j.toNat < k; omega), fun w e => nomatch e⟩, b2.mono (by omega), ?_⟩
          have e : (D.int j) = ptD (.i j.toNat) := by show D.int j = D.int ((j.toNat : Nat) : Int); rw [Int.toNat_of_nonneg j1]
          simp [hk0, h1, h2, e]
        · obtain ⟨w, cw, hw, hw2, hw3, hwB⟩ := plan_t (ls := ls) (k := 6) b1 (by omega) (by decide) (by decide) (by have : (6 : Int).toNat = 6 := rfl; omega)
          refine ⟨.t w, cw, pl hw2 hw3, hwB.mono (by have : (6 : Int).toNat = 6 := rfl; omega), ?_⟩
          simp [hk0, h1, hv, hw, ptD]
      · refine ⟨.t w, cw, pl hw2 hw3, hwB.mono (by have : (6 : Int).toNat = 6 := rfl; omega), ?_⟩
        simp [hk0, hw, ptD]
    obtain ⟨x, c1, hx, b1, e1⟩ := one
    obtain ⟨ps, c', h1, h2, h3, h4⟩ := parts_at hls hl hk d1 s2 s4 ds c1 (N + 10) b1 (by omega)
    refine ⟨x :: ps, c', ?_, by rw [List.length_cons, List.length_cons, h2], by rw [List.length_cons]; rw [show N + 10 * (ds.length + 1) = N + 10 + 10 * ds.length by omega]; exact h3, ?_⟩
    · intro y hy
      rcases List.mem_cons.mp hy with rfl | hy
      · exact hx
      · exact h1 y hy
    · unfold lcD
      rw [show gN 5 d [.par (.l c), .val (.str ls), s2, .val (.int (k : Int)), s4, .emp] = some [.par (.l c), .val (.str ls), s2, .val (.int (k : Int)), s4, .val d] from rfl, Option.bind_some, x_etT, Option.bind_some]
      show ((eIf _ _ _ _).bind _) = _
      rw [e1, Option.bind_some]
      show (lcD _ _ _ _ ds [.par (.l c1), .val (.str ls), s2, .val (.int (k : Int)), s4, .emp]).map _ = _
      rw [h4]; rfl
def Bkk (b : List (List Pt)) : Prop := BkOk b 0 ∧ ∀ p ∈ b, p.length ≤ 4 ∧ ∀ w, Pt.t w ∈ p → w.length ≤ 6
theorem Bkk.snoc {b : List (List Pt)} {p : List Pt} (h : Bkk b) (hp : ∀ x ∈ p, Ptk b.length x) (h4 : p.length ≤ 4) : Bkk (b ++ [p]) := by
  refine ⟨BkOk_app.mpr ⟨h.1, fun x hx => by rw [Nat.zero_add]; exact (hp x hx).1, trivial⟩, fun q hq => ?_⟩
  rcases List.mem_append.mp hq with z | z
  · exact h.2 q z
  · rw [List.mem_singleton] at z
    subst z
    exact ⟨h4, fun w hw => (hp _ hw).2 w rfl⟩
theorem book_at {c : List D} {N : Nat} {ls : List Nat} (hB : Box c N) (hN : N + 1000 < 2 ^ 40) (hls : Okw ls) (hl : ls.length ≤ 8) : ∃ b c', V__law_book [.c (.l c), .v (.str ls)] = some (.v (bkE false b), [.l c']) ∧ Bkk b ∧ 2 ≤ b.length ∧ b.length ≤ 5 ∧ Box c' (N + 300) := by
  obtain ⟨v, c1, h1, b1, k1, k2⟩ := take_at (n := 4) hB (by omega) (by decide) (by decide)
  have hd : ∀ b : List (List Pt), b.map (pcE false) = b.map fun p => D.tup (p.map ptD) := fun b => rfl
  obtain ⟨L', g1, g2⟩ := for_pre (enc := fun n : Nat => D.int (n : Int)) (g := gN 3) (body := (sSeq (sOw 4 (oLc (itR1 (eOp gAdd (eC (.int 1)) (eCall G_take (gS 0 (gV (eC (.int 4)) gNil0))))) (gN 5) etT (eIf (tAn (etB (eOp gGt (eMv 3) (eC (.int 0)))) (etB (eOp gEq (eCall G_take (gS 0 (gV (eC (.int 2)) gNil0))) (eC (.int 0))))) (eCall G_take (gS 0 (gV (eMv 3) gNil0))) (eCall G_plan (gS 0 (gV (eMv 1) (gV (eC (.int 6)) gNil0))))) [5])) (sSeq (sEx (eApp 2 (e1 gTup (sqL 4)))) sNx)))
    (fun pre L => ∃ (b : List (List Pt)) (c' : List D) (s3 s4 : Slot), s3.np = true ∧ s4.np = true ∧ L = [.par (.l c'), .val (.str ls), .liv (.l (b.map (pcE false))), s3, s4, .emp] ∧ Bkk b ∧ b.length = pre.length ∧ Box c' (N + 1 + 50 * pre.length)) (List.range (2 + v.toNat)) [] (L := [.par (.l c1), .val (.str ls), .liv (.l []), .emp, .emp, .emp]) ⟨[], c1, .emp, .emp, rfl, rfl, rfl, ⟨trivial, fun p h => nomatch h⟩, rfl, b1⟩ (by
    rintro pre k post e L ⟨b, c', s3, s4, n3, n4, rfl, hb, hbl, hBx⟩
    have hk : k = pre.length ∧ k < 2 + v.toNat := by
      have e2 : List.range (2 + v.toNat) = pre ++ k :: post := e
      have e3 := congrArg (fun l : List Nat => l[pre.length]?) e2
      simp only [List.getElem?_append_right (Nat.le_refl _), Nat.sub_self, List.getElem?_cons_zero] at e3
      obtain ⟨h1, h2⟩ := List.getElem?_eq_some_iff.mp e3
      rw [List.getElem_range] at h2
      rw [List.length_range] at h1
      omega
    obtain ⟨hk1, hk2⟩ := hk
    obtain ⟨u, c2, h2, b2, u1, u2⟩ := take_at (n := 4) hBx (by omega) (by decide) (by decide)
    obtain ⟨ps, c3, p1, p2, p3, p4⟩ := parts_at hls hl (k := k) (by omega) .non (.liv (.l (b.map (pcE false)))) s4 ((List.range (1 + u).toNat).map fun (n : Nat) => D.int (0 + n)) c2 _ b2 (by rw [List.length_map, List.length_range]; omega)
    rw [List.length_map, List.length_range] at p2 p3
    refine ⟨_, [.par (.l c3), .val (.str ls), .liv (.l ((b ++ [ps]).map (pcE false))), .val (.int (k : Int)), .liv (.l (ps.map ptD)), .emp], by simp [n3]; rfl, ?_, b ++ [ps], c3, _, _, rfl, rfl, rfl, hb.snoc (by rw [hbl, ← hk1]; exact p1) (by omega), by simp [hbl], p3.mono (by rw [List.length_append]; simp; omega)⟩
    have hbnd : -4611686018427387904 ≤ 1 + u ∧ 1 + u < 4611686018427387904 := by omega
    have hz : (1 + u).toNat ≤ 100000 := by omega
    have hz2 : b.length ≤ 100000 := by omega
    have ep : pcE false ps = .tup (ps.map ptD) := rfl
    rw [List.map_append, List.map_cons, List.map_nil, ep]
    simp only [Int.zero_add] at p4
    generalize ps.map ptD = P at *
    simp [h2, hbnd, x_noPar, hz, p4, n4, eApp, lsOf, hz2, DD.gTup])
  obtain ⟨b, c', s3, s4, n3, n4, rfl, hb, hbl, hBx⟩ := g2
  rw [List.nil_append, List.length_range] at hbl hBx
  refine ⟨b, c', ?_, hb, by omega, by omega, hBx.mono (by omega)⟩
  have hbnd : -4611686018427387904 ≤ 2 + v ∧ 2 + v < 4611686018427387904 := by omega
  have e : (2 + v).toNat = 2 + v.toNat := by omega
  have eb : bkE false b = .tup (b.map (pcE false)) := rfl
  rw [eb]
  simp [V__law_book, fnD, B__law_book, startE, parIx, csAt, h1, hbnd, e, g1, DD.gTup]
/-! ### told, as lists -/
theorem told_f {b : List (List Pt)} (hb : Bkk b) (h5 : b.length ≤ 5) : ∀ (m k : Nat), k < m → k < b.length → V__law_told m [.v (bkE false b), .v (.int (k : Int))] = some (.v (.str (told b k)), [])
  | 0, k, h, _ => absurd h (Nat.not_lt_zero _)
  | m + 1, k, hm, hk => by
    obtain ⟨p, hp⟩ : ∃ p, b[k]? = some p := ⟨_, List.getElem?_eq_getElem hk⟩
    have hok := Pt_T hb.1 hp
    rw [V__law_told_s]
    have key := lc_mA (enc := ptD) (j := 2) (elt := eIf (etB (eIsi ["int"] (eMv 2))) (eCall (V__law_told m) (gV (eMv 0) (gV (eMv 2) gNil0))) (eMv 2)) (Lw := [.val (bkE false b), .val (.int (k : Int)), .emp]) rfl (fun x => D.str (ptT (tolds b) x)) p (fun x hx => by
      have := hok x hx
      cases x with
      | t w => simp [ptD, isiS, ptT]
      | i j =>
        have hj : j < k := this
        have ih := told_f hb h5 m j (by omega) (by omega)
        have ih : V__law_told m [.v (bkE false b), .v (.int (j : Int))] = some (.v (.str (ptT (tolds b) (.i j))), []) := ih
        generalize ptT (tolds b) (.i j) = Z at ih ⊢
        simp [ptD, isiS, ih])
    have e : (p.map fun x => D.str (ptT (tolds b) x)) = (p.map (ptT (tolds b))).map D.str := by rw [List.map_map]; rfl
    have hlen := told_len hb.1 hb.2 (k + 1) k (Nat.lt_succ_self _)
    have h4 : 4 ^ (k + 1) ≤ 4 ^ 5 := Nat.pow_le_pow_right (by decide) (by omega)
    have h45 : (4 : Nat) ^ 5 = 1024 := rfl
    have ep := told_pc hb.1 hp
    have jn : gJoin [] (.l (p.map fun x => D.str (ptT (tolds b) x))) = some (.str (told b k)) := by
      rw [e, ep]
      refine join_list ?_
      have : ((p.map (ptT (tolds b))).map List.length).sum = (pcT (tolds b) p).length := by unfold pcT; rw [List.length_flatten]
      rw [this, ← ep]; omega
    have hz : p.length ≤ 100000 := by have := (hb.2 p (List.mem_of_getElem? hp)).1; omega
    have ixp := ix_bk (s := false) (b := b) (L := [.val (bkE false b), .val (.int (k : Int)), .emp]) (i := 0) (eb := eMv 1) rfl rfl hp
    generalize (p.map fun x => D.str (ptT (tolds b) x)) = Y at key jn
    simp [-x_eIxN, fnD, B__law_told, startE, parIx, csAt, ixp, x_noPar, hz, key, jn]
theorem lists_pt (m : Nat) (x : Pt) : V__law_lists (m + 1) [.v (ptD x)] = some (.v (ptD x), []) := by
  rw [V__law_lists_s]
  cases x <;> simp [fnD, B__law_lists, startE, parIx, csAt, ptD, isiS]
theorem lists_pc (m : Nat) (p : List Pt) (hp : p.length ≤ 1000) : V__law_lists (m + 2) [.v (pcE false p)] = some (.v (pcE true p), []) := by
  rw [V__law_lists_s]
  have key := lc_mA (enc := ptD) (j := 1) (elt := eCall (V__law_lists (m + 1)) (gV (eMv 1) gNil0)) (Lw := [.val (pcE false p), .emp]) rfl ptD p (fun x hx => by simp [lists_pt])
  have hz : p.length ≤ 100000 := by omega
  have e1 : pcE false p = .tup (p.map ptD) := rfl
  have e2 : pcE true p = .lst (p.map ptD) := rfl
  rw [e1] at key ⊢
  rw [e2]
  simp [fnD, B__law_lists, startE, parIx, csAt, isiS, x_noPar, hz, key]
theorem lists_bk (m : Nat) {b : List (List Pt)} (hb : Pcs b) : V__law_lists (m + 3) [.v (bkE false b)] = some (.v (bkE true b), []) := by
  rw [V__law_lists_s]
  have key := lc_mA (enc := pcE false) (j := 1) (elt := eCall (V__law_lists (m + 2)) (gV (eMv 1) gNil0)) (Lw := [.val (bkE false b), .emp]) rfl (pcE true) b (fun x hx => by simp [lists_pc m x (hb.2 x hx)])
  have hz : b.length ≤ 100000 := by have := hb.1; omega
  have e1 : bkE false b = .tup (b.map (pcE false)) := rfl
  have e2 : bkE true b = .lst (b.map (pcE true)) := rfl
  rw [e1] at key ⊢
  rw [e2]
  simp [fnD, B__law_lists, startE, parIx, csAt, isiS, x_noPar, hz, key]
theorem Bkk.pcs {b : List (List Pt)} (h : Bkk b) (h5 : b.length ≤ 5) : Pcs b := ⟨by omega, fun p hp => by have := (h.2 p hp).1; omega⟩
end DG

end
section
set_option Elab.async false
set_option linter.all false
set_option maxRecDepth 100000
set_option maxHeartbeats 4000000
/-! LR: the law k82: its own def. -/
namespace DG
open PySem PySem.Spec PyProof.Rows L2 RZ DD FM
open TL (joinL)
open Classical
theorem right_at {c : List D} {N : Nat} (hB : Box c N) (hN : N + 20000 < 2 ^ 40) : ∃ c', V__law_right [.c (.l c)] = some (.v (.bl true), [.l c']) ∧ Box c' (N + 20000) := by
  obtain ⟨v1, c1, a1, b1, k1, k1'⟩ := take_at (n := 5) hB (by omega) (by decide) (by decide)
  obtain ⟨ls, c2, a2, o2, nd2, l2, l2', b2⟩ := letters_t (k := 1 + v1) b1 (by omega) (by omega)
  obtain ⟨b, c3, a3, hb, hb2, hb5, b3⟩ := book_at b2 (by omega) o2 l2
  have hp := hb.pcs hb5
  unfold V__law_right
  refine fine_at ?_
  unfold B__law_right
  show Ends _ [.par (.l c), .emp, .emp, .emp, .emp, .emp, .emp, .emp, .emp, .emp, .emp, .emp, .emp, .emp, .emp, .emp, .emp, .emp, .emp, .emp, .emp, .emp, .emp, .emp, .emp, .emp, .emp, .emp, .emp] _
  refine en_nx (L' := [.par (.l c2), .val (.str ls), .emp, .emp, .emp, .emp, .emp, .emp, .emp, .emp, .emp, .emp, .emp, .emp, .emp, .emp, .emp, .emp, .emp, .emp, .emp, .emp, .emp, .emp, .emp, .emp, .emp, .emp, .emp]) (by simp -implicitDefEqProofs [B__law_right_0, a1, a2]) ?_
  refine en_nx (L' := [.par (.l c3), .val (.str ls), .val (bkE false b), .emp, .emp, .emp, .emp, .emp, .emp, .emp, .emp, .emp, .emp, .emp, .emp, .emp, .emp, .emp, .emp, .emp, .emp, .emp, .emp, .emp, .emp, .emp, .emp, .emp, .emp]) (by simp -implicitDefEqProofs [B__law_right_1, a3]) ?_
  have ln := fun (L : DD.Env) (h : L[2]? = some (.val (bkE false b))) => len_bk h
  obtain ⟨a, ha⟩ : ∃ a, a + 1 = b.length := ⟨b.length - 1, by omega⟩
  have ea : ((b.length : Nat) : Int) - 1 = (a : Int) := by omega
  refine en_nx (L' := [.par (.l c3), .val (.str ls), .val (bkE false b), .val (.int (a : Int)), .emp, .emp, .emp, .emp, .emp, .emp, .emp, .emp, .emp, .emp, .emp, .emp, .emp, .emp, .emp, .emp, .emp, .emp, .emp, .emp, .emp, .emp, .emp, .emp, .emp]) (by simp -implicitDefEqProofs [B__law_right_2, -x_e1, ln, gSubI, ea]) ?_
  have tf := told_f hb hb5 12 a (by omega) (by omega)
  have hw : Okw (told b a) := told_ok hb.1 a
  refine en_nx (L' := [.par (.l c3), .val (.str ls), .val (bkE false b), .val (.int (a : Int)), .val (.str (told b a)), .emp, .emp, .emp, .emp, .emp, .emp, .emp, .emp, .emp, .emp, .emp, .emp, .emp, .emp, .emp, .emp, .emp, .emp, .emp, .emp, .emp, .emp, .emp, .emp]) (by simp -implicitDefEqProofs [B__law_right_3, tf]) ?_
  have fa := form_in_at (s := true) hb.1 hp (k := a) (by omega)
  have li := lists_bk 9 (b := b) hp
  have lg := long_at (s := false) hb.1 hp (k := a) (by omega)
  generalize hW : told b a = w at *
  by_cases h300 : 300 < w.length
  · refine en_rt (L' := [.par (.l c3), .val (.str ls), .val (bkE false b), .val (.int (a : Int)), .val (.str w)] ++ List.replicate 24 .emp) (by simp [B__law_right_4, show (300 : Int) < w.length by omega]) ⟨rfl, c3, rfl, b3.mono (by omega)⟩
  refine en_nx (L' := [.par (.l c3), .val (.str ls), .val (bkE false b), .val (.int (a : Int)), .val (.str w), .emp, .emp, .emp, .emp, .emp, .emp, .emp, .emp, .emp, .emp, .emp, .emp, .emp, .emp, .emp, .emp, .emp, .emp, .emp, .emp, .emp, .emp, .emp, .emp]) (by simp -implicitDefEqProofs [B__law_right_4, show ¬ (300 : Int) < w.length by omega]) ?_
  refine en_nx (L' := [.par (.l c3), .val (.str ls), .val (bkE false b), .val (.int (a : Int)), .val (.str w), .val (toD (form w)), .emp, .emp, .emp, .emp, .emp, .emp, .emp, .emp, .emp, .emp, .emp, .emp, .emp, .emp, .emp, .emp, .emp, .emp, .emp, .emp, .emp, .emp, .emp]) (by simp -implicitDefEqProofs [B__law_right_5, li, fa]) ?_
  have wd : Wd 300 w := ⟨hw, by omega⟩
  have lf := a_lform wd (by decide)
  have s6 := same_l (xs := [toD (form w), .int ((w.length : Nat) : Int)]) (by simp) (by
    intro x hx
    have : x = toD (form w) ∨ x = .int ((w.length : Nat) : Int) := by simpa using hx
    rcases this with rfl | rfl
    · exact sok_f hw
    · trivial)
  refine en_nx (L' := [.par (.l c3), .val (.str ls), .val (bkE false b), .val (.int (a : Int)), .val (.str w), .val (toD (form w)), .emp, .emp, .emp, .emp, .emp, .emp, .emp, .emp, .emp, .emp, .emp, .emp, .emp, .emp, .emp, .emp, .emp, .emp, .emp, .emp, .emp, .emp, .emp]) (by simp -implicitDefEqProofs [B__law_right_6, lg, lf, s6]) ?_
  obtain ⟨v7, c4, a7, b4, k7, k7'⟩ := take_at (n := 50) b3 (by omega) (by decide) (by decide)
  obtain ⟨m, hm⟩ : ∃ m : Nat, 40 + v7 = (m : Int) := ⟨(40 + v7).toNat, by omega⟩
  refine en_nx (L' := [.par (.l c4), .val (.str ls), .val (bkE false b), .val (.int (a : Int)), .val (.str w), .val (toD (form w)), .val (.int (m : Int)), .emp, .emp, .emp, .emp, .emp, .emp, .emp, .emp, .emp, .emp, .emp, .emp, .emp, .emp, .emp, .emp, .emp, .emp, .emp, .emp, .emp, .emp]) (by simp -implicitDefEqProofs [B__law_right_7, a7, hm]) ?_
  have key := lc_mA (enc := fun n : Nat => D.int (n : Int)) (j := 7) (elt := eTup (aCons (eOp gAdd (eMv 3) (eMv 7)) (aCons (eOp gAdd (eMv 3) (eMv 7)) aNil))) (Lw := [.par (.l c4), .val (.str ls), .val (bkE false b), .val (.int (a : Int)), .val (.str w), .val (toD (form w)), .val (.int (m : Int)), .emp, .emp, .emp, .emp, .emp, .emp, .emp, .emp, .emp, .emp, .emp, .emp, .emp, .emp, .emp, .emp, .emp, .emp, .emp, .emp, .emp, .emp]) rfl (fun k => pcE false (prs a k)) (List.range m) (fun x hx => by simp [pcE, prs, ptD])
  have tall_add : gAdd (bkE false b) (.tup ((List.range m).map fun k => pcE false (prs a k))) = some (bkE false (tall b a m)) := by
    have e : bkE false (tall b a m) = .tup (b.map (pcE false) ++ ((List.range m).map fun k => pcE false (prs a k))) := by
      show D.tup _ = _
      rw [tall, List.map_append, List.map_map]; rfl
    rw [e]
    show (if _ then _ else none) = _
    rw [if_pos]
    refine ⟨?_, ?_, ?_⟩
    · intro h
      have := congrArg List.length h
      rw [List.length_map] at this
      have h0 : ([] : List D).length = 0 := rfl
      omega
    · intro h
      have := congrArg List.length h
      rw [List.length_map, List.length_range] at this
      have h0 : ([] : List D).length = 0 := rfl
      omega
    · rw [List.length_map, List.length_map, List.length_range]; omega
  have hbm : (m : Int) < 4611686018427387904 := by omega
  have hm1 : m ≤ 100000 := by omega
  generalize ((List.range m).map fun k => pcE false (prs a k)) = Y at key tall_add
  refine en_nx (L' := [.par (.l c4), .val (.str ls), .val (bkE false b), .val (.int (a : Int)), .val (.str w), .val (toD (form w)), .val (.int (m : Int)), .emp, .val (bkE false (tall b a m)), .emp, .emp, .emp, .emp, .emp, .emp, .emp, .emp, .emp, .emp, .emp, .emp, .emp, .emp, .emp, .emp, .emp, .emp, .emp, .emp]) (by simp -implicitDefEqProofs [B__law_right_8, hbm, x_noPar, hm1, key, DD.gTup, tall_add]) ?_
  obtain ⟨tw, htw⟩ : ∃ tw : Nat → Int, ∀ j, tw j = ((2 ^ j : Nat) : Int) := ⟨_, fun _ => rfl⟩
  have pw : gPow (.int 2) (.int 40) = some (.int (tw 40)) := by rw [htw]; rfl
  refine en_nx (L' := [.par (.l c4), .val (.str ls), .val (bkE false b), .val (.int (a : Int)), .val (.str w), .val (toD (form w)), .val (.int (m : Int)), .emp, .val (bkE false (tall b a m)), .val (.int ((a : Int) + m)), .val (.int (tw 40)), .emp, .emp, .emp, .emp, .emp, .emp, .emp, .emp, .emp, .emp, .emp, .emp, .emp, .emp, .emp, .emp, .emp, .emp]) (by simp -implicitDefEqProofs [B__law_right_9, pw]) ?_
  obtain ⟨L10, l10, j11, n11, rfl⟩ := for_pre (enc := fun n : Nat => D.int (n : Int)) (g := gN 11) (body := (sSeq (sAs (gN 10) (eOp gMul (eMv 10) (eC (.int 2)))) sNx)) (fun pre L => ∃ j11 : Slot, j11.np = true ∧ L = [.par (.l c4), .val (.str ls), .val (bkE false b), .val (.int (a : Int)), .val (.str w), .val (toD (form w)), .val (.int (m : Int)), .emp, .val (bkE false (tall b a m)), .val (.int ((a : Int) + m)), .val (.int (tw (40 + pre.length))), j11, .emp, .emp, .emp, .emp, .emp, .emp, .emp, .emp, .emp, .emp, .emp, .emp, .emp, .emp, .emp, .emp, .emp]) (List.range (m - 40)) []
    (L := [.par (.l c4), .val (.str ls), .val (bkE false b), .val (.int (a : Int)), .val (.str w), .val (toD (form w)), .val (.int (m : Int)), .emp, .val (bkE false (tall b a m)), .val (.int ((a : Int) + m)), .val (.int (tw 40)), .emp, .emp, .emp, .emp, .emp, .emp, .emp, .emp, .emp, .emp, .emp, .emp, .emp, .emp, .emp, .emp, .emp, .emp]) ⟨.emp, rfl, rfl⟩ (by
    rintro pre x post e L ⟨j11, n11, rfl⟩
    have g : gMul (.int (tw (40 + pre.length))) (.int 2) = some (.int (tw (40 + (pre ++ [x]).length))) := by
      rw [mulR (by decide), List.length_append, htw, htw, show 40 + (pre.length + [x].length) = 40 + pre.length + 1 from rfl, Nat.pow_succ]
      push_cast; rfl
    refine ⟨_, _, by simp [n11]; rfl, ?_, .val (.int (x : Int)), rfl, rfl⟩
    simp [g])
  rw [List.nil_append, List.length_range, show 40 + (m - 40) = m by omega] at l10
  have e40 : ((m : Int) - 40).toNat = m - 40 := by omega
  have hb40 : (m : Int) - 40 < 4611686018427387904 ∧ -4611686018427387904 ≤ (m : Int) - 40 := by omega
  refine en_nx (L' := [.par (.l c4), .val (.str ls), .val (bkE false b), .val (.int (a : Int)), .val (.str w), .val (toD (form w)), .val (.int (m : Int)), .emp, .val (bkE false (tall b a m)), .val (.int ((a : Int) + m)), .val (.int (tw m)), j11, .emp, .emp, .emp, .emp, .emp, .emp, .emp, .emp, .emp, .emp, .emp, .emp, .emp, .emp, .emp, .emp, .emp]) (by simp -implicitDefEqProofs [B__law_right_10, gSubI, hb40.1, hb40.2, e40, l10]) ?_
  have hls0 : ls ≠ [] := by
    intro h
    rw [h] at l2'
    have : ([] : List Nat).length = 0 := rfl
    omega
  obtain ⟨lx, c5, hlx, a11, b5⟩ := of_atS (ls := chars ls) b4 (by omega) (by simpa [chars] using hls0) (by simp [chars]; omega)
  obtain ⟨x, hx, rfl⟩ := mem_chars.mp hlx
  have gl : gList (.s ls) = some (.l ((chars ls).map D.str)) := if_pos (by omega)
  generalize (chars ls).map D.str = CL at a11 gl
  refine en_nx (L' := [.par (.l c5), .val (.str ls), .val (bkE false b), .val (.int (a : Int)), .val (.str w), .val (toD (form w)), .val (.int (m : Int)), .emp, .val (bkE false (tall b a m)), .val (.int ((a : Int) + m)), .val (.int (tw m)), j11, .val (.str [x]), .emp, .emp, .emp, .emp, .emp, .emp, .emp, .emp, .emp, .emp, .emp, .emp, .emp, .emp, .emp, .emp]) (by simp -implicitDefEqProofs [B__law_right_11, gl, a11]) ?_
  -- the tall book
  have tk := tall_ok hb.1 ha m
  have tp := tall_pcs (a := a) (m := m) hp (by omega)
  have tl := tall_len b a m
  have tt := tall_told hb.1 ha m
  have t0 : told (tall b a m) a = w := by rw [← hW]; exact tolds_app b _ (by omega)
  obtain ⟨q, hq⟩ : ∃ q, 2 ^ m = q + 1 := ⟨2 ^ m - 1, by have := Nat.one_le_two_pow (n := m); omega⟩
  rw [hW] at tt
  have lgT := long_at (s := false) tk tp (k := a + m) (by omega)
  have hoT := how_often_at (s := false) (c := x) tk tp (k := a + m) (by omega)
  have fiT := form_in_at (s := false) tk tp (k := a + m) (by omega)
  have alT := alike_pieces_at (s := false) tk tp (k := a + m) (j := a) (by omega) (by omega)
  have ltT := fun i => letter_at_at (s := false) (i := i) tk tp (k := a + m) (by omega) (by omega)
  have fpT := first_at (s := false) (c := x) tk tp (k := a + m) (by omega)
  have lpT := last_at (s := false) (c := x) tk tp (k := a + m) (by omega)
  have stT := fun f n hn => stretch_at (s := false) (f := f) (n := n) tk tp (k := a + m) (by omega) (by omega) hn
  have fbT := fun f l hn => form_between_at (s := false) (f := f) (l := l) tk tp (k := a + m) (by omega) (by omega) hn
  rw [tt] at lgT hoT fiT alT fpT lpT
  simp only [tt] at ltT stT fbT
  rw [Rt_len] at lgT
  rw [Rt_count] at hoT
  have fR : form (Rt (2 ^ m) w) = form w := by rw [hq]; exact Rt_form q w
  rw [fR] at fiT
  rw [t0, fR, decide_eq_true rfl] at alT
  rw [hq, Rt_fst] at fpT
  rw [hq, Rt_lst] at lpT
  have ee1 : ((2 ^ m * w.length : Nat) : Int) = (w.length : Int) * tw m := by rw [htw, Int.natCast_mul, Int.mul_comm]
  have ee2 : ((2 ^ m * w.count x : Nat) : Int) = (w.count x : Int) * tw m := by rw [htw, Int.natCast_mul, Int.mul_comm]
  rw [ee1] at lgT
  rw [ee2] at hoT
  simp only [Int.natCast_add] at lgT hoT fiT alT ltT fpT lpT stT fbT
  have twp : 0 < tw m := by rw [htw, hq]; omega
  generalize hB2 : bkE false (tall b a m) = B2 at *
  refine en_nx (L' := [.par (.l c5), .val (.str ls), .val (bkE false b), .val (.int (a : Int)), .val (.str w), .val (toD (form w)), .val (.int (m : Int)), .emp, .val B2, .val (.int ((a : Int) + m)), .val (.int (tw m)), j11, .val (.str [x]), .val (.lst [.int ((w.length : Int) * tw m), .int ((w.count x : Int) * tw m), toD (form w), .bl true]), .emp, .emp, .emp, .emp, .emp, .emp, .emp, .emp, .emp, .emp, .emp, .emp, .emp, .emp, .emp]) (by simp -implicitDefEqProofs [B__law_right_12, lgT, hoT, fiT, alT]) ?_
  have g1 : gMul (.int (w.length : Int)) (.int (tw m)) = some (.int ((w.length : Int) * tw m)) := mulL (by omega)
  have hcl : w.count x ≤ w.length := List.count_le_length
  have g2 : gMul (.int (w.count x : Int)) (.int (tw m)) = some (.int ((w.count x : Int) * tw m)) := mulL (by omega)
  have s13 := same_l (xs := [.int ((w.length : Int) * tw m), .int ((w.count x : Int) * tw m), toD (form w), .bl true]) (by simp) (by
    intro y hy
    have : y = .int ((w.length : Int) * tw m) ∨ y = .int ((w.count x : Int) * tw m) ∨ y = toD (form w) ∨ y = .bl true := by simpa using hy
    rcases this with rfl | rfl | rfl | rfl
    · trivial
    · trivial
    · exact sok_f hw
    · trivial)
  refine en_nx (L' := [.par (.l c5), .val (.str ls), .val (bkE false b), .val (.int (a : Int)), .val (.str w), .val (toD (form w)), .val (.int (m : Int)), .emp, .val B2, .val (.int ((a : Int) + m)), .val (.int (tw m)), j11, .val (.str [x]), .val (.lst [.int ((w.length : Int) * tw m), .int ((w.count x : Int) * tw m), toD (form w), .bl true]), .emp, .emp, .emp, .emp, .emp, .emp, .emp, .emp, .emp, .emp, .emp, .emp, .emp, .emp, .emp]) (by simp -implicitDefEqProofs [B__law_right_13, g1, g2, s13]) ?_
  have blk : ∃ (c6 : List D) (j7 j13 j14 j15 j16 j17 j18 : DD.Slot), j13.np = true ∧ j15.np = true ∧ Box c6 (N + 1000) ∧ (B__law_right_14 G_take G_letters V__law_book (V__law_told 12) (V__law_lists 12) V_form_in (G_lform 9) V_long_of (G_same 12) G_of V_alike_pieces V_how_often V_form_between V_stretch_of V_letter_at V_last_place V_first_place G_product G_pick G_renamed G_form_renamed G_form_back) [.par (.l c5), .val (.str ls), .val (bkE false b), .val (.int (a : Int)), .val (.str w), .val (toD (form w)), .val (.int (m : Int)), .emp, .val B2, .val (.int ((a : Int) + m)), .val (.int (tw m)), j11, .val (.str [x]), .val (.lst [.int ((w.length : Int) * tw m), .int ((w.count x : Int) * tw m), toD (form w), .bl true]), .emp, .emp, .emp, .emp, .emp, .emp, .emp, .emp, .emp, .emp, .emp, .emp, .emp, .emp, .emp] = some (.nx [.par (.l c6), .val (.str ls), .val (bkE false b), .val (.int (a : Int)), .val (.str w), .val (toD (form w)), .val (.int (m : Int)), j7, .val B2, .val (.int ((a : Int) + m)), .val (.int (tw m)), j11, .val (.str [x]), j13, j14, j15, j16, j17, j18, .emp, .emp, .emp, .emp, .emp, .emp, .emp, .emp, .emp, .emp]) := by
    by_cases hw0 : w = []
    · exact ⟨c5, .emp, _, .emp, .emp, .emp, .emp, .emp, rfl, rfl, b5.mono (by omega), by simp -implicitDefEqProofs [B__law_right_14, hw0]; rfl⟩
    · obtain ⟨u1, d1, q1, m1, r1, r1'⟩ := take_at (n := 1000000000) b5 (by omega) (by decide) (by decide)
      obtain ⟨u2, d2, q2, m2, r2, r2'⟩ := take_at (n := 1000000000) m1 (by omega) (by decide) (by decide)
      have hwl : 0 < w.length := List.length_pos_iff.mpr hw0
      obtain ⟨kk, d3, q3, m3, r3, r3'⟩ := take_at (n := (w.length : Nat)) m2 (by omega) (by omega) (by omega)
      have pw9 : gPow (.int 10) (.int 9) = some (.int 1000000000) := rfl
      have gm : gMul (.int u1) (.int 997) = some (.int (u1 * 997)) := mulR (by decide)
      have gd : gMod (.int (u1 * 997 + u2)) (.int (tw m)) = some (.int ((u1 * 997 + u2) % tw m)) := modP twp
      obtain ⟨s, hs⟩ : ∃ s : Nat, (u1 * 997 + u2) % tw m = (s : Int) := ⟨((u1 * 997 + u2) % tw m).toNat, by rw [Int.toNat_of_nonneg (Int.emod_nonneg _ (by omega))]⟩
      have hst : (s : Int) < tw m := by rw [← hs]; exact Int.emod_lt_of_pos _ twp
      have hst' : s < 2 ^ m := by rw [htw] at hst; exact_mod_cast hst
      obtain ⟨k, rfl⟩ : ∃ k : Nat, kk = (k : Int) := ⟨kk.toNat, by omega⟩
      have hk : k < w.length := by omega
      rw [hs] at gd
      have gp : gMul (.int (s : Int)) (.int (w.length : Int)) = some (.int ((s * w.length : Nat) : Int)) := by rw [mulR (by omega)]; push_cast; rfl
      -- the letters
      have l1 := ltT ((s * w.length + k : Nat) : Int)
      have l1' : ltrD (Rt (2 ^ m) w) ((s * w.length + k : Nat) : Int) = .str [w[k]] := by
        unfold ltrD
        rw [if_pos (by omega), Int.toNat_natCast, Rt_get hst' hk, List.getElem?_eq_getElem hk]
      have l2 := ltT ((w.length : Int) * tw m)
      have l2' : ltrD (Rt (2 ^ m) w) ((w.length : Int) * tw m) = .non := by
        unfold ltrD
        rw [← ee1, if_pos (by omega), Int.toNat_natCast, List.getElem?_eq_none (by rw [Rt_len]; omega)]
      rw [l1'] at l1
      rw [l2'] at l2
      have fs : ∀ L : DD.Env, L[4]? = some (.val (.str w)) → L[12]? = some (.val (.str [x])) → (eIf (etB (eOpS (gIn false) (eMv 12) (sqL 4))) (eM1 gFind (eMv 4) (sqL 12)) (eC .non)) L = some (plD (fst1 x w), L) := fun L h4 h12 => by
        by_cases hxw : x ∈ w
        · cases hf : fst1 x w with
          | none => exact absurd hxw (fst1_none.mp hf)
          | some i => simp [h4, h12, hxw, hf, plD]
        · have hf : fst1 x w = none := fst1_none.mpr hxw
          simp [h4, h12, hxw, hf, plD]
      have el : (w.length : Int) * tw m = ((w.length * 2 ^ m : Nat) : Int) := by rw [htw]; push_cast; rfl
      have las : ∀ L : DD.Env, L[4]? = some (.val (.str w)) → L[10]? = some (.val (.int (tw m))) → L[12]? = some (.val (.str [x])) → (eIf (etB (eOpS (gIn false) (eMv 12) (sqL 4))) (eOp gSub (eOp gSub (eOp gMul (e1 gLen (sqL 4)) (eMv 10)) (eC (.int 1))) (eM1 gFind (eRev (eMv 4)) (sqL 12))) (eC .non)) L = some (plD ((lst1 x w).map (· + q * w.length)), L) := fun L h4 h10 h12 => by
        rw [lst1_rev]
        by_cases hxw : x ∈ w
        · cases hf : fst1 x w.reverse with
          | none => exact absurd (List.mem_reverse.mpr hxw) (fst1_none.mp hf)
          | some i =>
            have hi : i < w.length := by
              have := (List.getElem?_eq_some_iff.mp (fst1_some.mp hf).1).1
              simpa using this
            have e3 : (w.length : Int) * tw m - 1 - (i : Int) = ((w.length - 1 - i + q * w.length : Nat) : Int) := by
              rw [el, hq, Nat.mul_add, Nat.mul_comm w.length q]; omega
            simp [h4, h10, h12, hxw, hf, plD, g1, gSubI, e3]
        · have hf : fst1 x w.reverse = none := fst1_none.mpr fun z => hxw (List.mem_reverse.mp z)
          simp [h4, h12, hxw, hf, plD]
      have g3 : gMul (.str w) (.int 3) = some (.str (Rt 3 w)) := by
        show (if 0 ≤ (3 : Int) ∧ (3 : Int) ≤ 1000 ∧ w.length ≤ 10000 then _ else _) = _
        rw [if_pos ⟨by decide, by decide, by omega⟩]; rfl
      have cr : cutL (Rt 3 w) (some (k : Int)) (some ((k : Int) + (w.length : Int) + 2)) = sub (Rt 3 w) k (k + w.length + 2) := cut_sub (Rt 3 w) k (k + w.length + 2)
      obtain ⟨row, hrow⟩ : ∃ row, sub (Rt 3 w) k (k + w.length + 2) = row := ⟨_, rfl⟩
      have hrl : k + row.length ≤ 3 * w.length ∧ row.length ≤ w.length + 2 ∧ row = sub (Rt 3 w) k (k + row.length) := by
        have r1 : row.length = min (k + w.length + 2) (3 * w.length) - k := by
          rw [← hrow]; unfold sub
          rw [List.length_drop, List.length_take, Rt_len]
        refine ⟨by omega, by omega, ?_⟩
        rw [show k + row.length = min (Rt 3 w).length (k + w.length + 2) by rw [Rt_len, r1]; omega, sub_min, hrow]
      rw [hrow] at cr
      obtain ⟨hr1, hr2, hr3⟩ := hrl
      have st := stT (s * w.length + k) row.length (by omega)
      have fb := fbT (s * w.length + k) (s * w.length + k + row.length) (by omega)
      have okR : Okw (Rt (2 ^ m) w) := by rw [← tt]; exact told_ok tk _
      have okr : Okw row := by rw [← hrow]; exact (Okw.sub (by intro z hz; unfold Rt at hz; rw [List.mem_flatten] at hz; obtain ⟨v, hv, hz⟩ := hz; rw [List.eq_of_mem_replicate hv] at hz; exact hw z hz) _ _)
      have lfr := a_lform (n := 302) ⟨okr, by omega⟩ (by decide)
      generalize hsu : sub (Rt (2 ^ m) w) (s * w.length + k) (s * w.length + k + row.length) = SU at st fb
      have fin : (s : Int) + 3 < tw m → SU = row := fun h => by
        rw [← hsu, hr3, ← hr3]
        exact (sub_Rt (by rw [htw] at h; have : ((s + 3 : Nat) : Int) < ((2 ^ m : Nat) : Int) := by push_cast at h ⊢; exact h
                          omega) hr1).trans hr3.symm
      have okS : Okw SU := by rw [← hsu]; exact okR.sub _ _
      have sA := same_l (xs := [.str [w[k]], plD (fst1 x w), plD ((lst1 x w).map (· + q * w.length)), .non]) (by simp) (by
        intro y hy
        have pk : ∀ o, sok 10 (plD o) := fun o => by cases o <;> trivial
        have : y = .str [w[k]] ∨ y = plD (fst1 x w) ∨ y = plD ((lst1 x w).map (· + q * w.length)) ∨ y = .non := by simpa using hy
        rcases this with rfl | rfl | rfl | rfl
        · trivial
        · exact pk _
        · exact pk _
        · trivial)
      have sB := same_l (xs := [.str row, toD (form row)]) (by simp) (by
        intro y hy
        have : y = .str row ∨ y = toD (form row) := by simpa using hy
        rcases this with rfl | rfl
        · trivial
        · exact sok_f okr)
      have ixk : gIxS (.s w) (.int (k : Int)) = some (.str [w[k]]) := by
        show (atI w _).map _ = _
        rw [atI_nat (List.getElem?_eq_getElem hk)]; rfl
      push_cast at l1 st fb gp
      refine ⟨d3, .val (.int (k : Int)), .val (.lst [.str SU, toD (form SU)]), .val (.int (s : Int)), .val (.int ((s : Int) * w.length + k)), .val (plD (fst1 x w)), .val (plD ((lst1 x w).map (· + q * w.length))), .val (.str row), rfl, rfl, m3.mono (by omega), ?_⟩
      unfold B__law_right_14
      refine nx_if (L1 := [.par (.l c5), .val (.str ls), .val (bkE false b), .val (.int (a : Int)), .val (.str w), .val (toD (form w)), .val (.int (m : Int)), .emp, .val B2, .val (.int ((a : Int) + m)), .val (.int (tw m)), j11, .val (.str [x]), .val (.lst [.int ((w.length : Int) * tw m), .int ((w.count x : Int) * tw m), toD (form w), .bl true]), .emp, .emp, .emp, .emp, .emp, .emp, .emp, .emp, .emp, .emp, .emp, .emp, .emp, .emp, .emp]) (by simp [hw0]) ?_
      refine nx_seq (L1 := [.par (.l d2), .val (.str ls), .val (bkE false b), .val (.int (a : Int)), .val (.str w), .val (toD (form w)), .val (.int (m : Int)), .emp, .val B2, .val (.int ((a : Int) + m)), .val (.int (tw m)), j11, .val (.str [x]), .val (.lst [.int ((w.length : Int) * tw m), .int ((w.count x : Int) * tw m), toD (form w), .bl true]), .val (.int (s : Int)), .emp, .emp, .emp, .emp, .emp, .emp, .emp, .emp, .emp, .emp, .emp, .emp, .emp, .emp]) (by simp -implicitDefEqProofs [pw9, q1, q2, gm, gd]) ?_
      refine nx_seq (L1 := [.par (.l d3), .val (.str ls), .val (bkE false b), .val (.int (a : Int)), .val (.str w), .val (toD (form w)), .val (.int (m : Int)), .val (.int (k : Int)), .val B2, .val (.int ((a : Int) + m)), .val (.int (tw m)), j11, .val (.str [x]), .val (.lst [.int ((w.length : Int) * tw m), .int ((w.count x : Int) * tw m), toD (form w), .bl true]), .val (.int (s : Int)), .emp, .emp, .emp, .emp, .emp, .emp, .emp, .emp, .emp, .emp, .emp, .emp, .emp, .emp]) (by simp -implicitDefEqProofs [q3]) ?_
      refine nx_seq (L1 := [.par (.l d3), .val (.str ls), .val (bkE false b), .val (.int (a : Int)), .val (.str w), .val (toD (form w)), .val (.int (m : Int)), .val (.int (k : Int)), .val B2, .val (.int ((a : Int) + m)), .val (.int (tw m)), j11, .val (.str [x]), .val (.lst [.int ((w.length : Int) * tw m), .int ((w.count x : Int) * tw m), toD (form w), .bl true]), .val (.int (s : Int)), .val (.int ((s : Int) * w.length + k)), .emp, .emp, .emp, .emp, .emp, .emp, .emp, .emp, .emp, .emp, .emp, .emp, .emp]) (by simp -implicitDefEqProofs [gp]) ?_
      refine nx_seq (L1 := [.par (.l d3), .val (.str ls), .val (bkE false b), .val (.int (a : Int)), .val (.str w), .val (toD (form w)), .val (.int (m : Int)), .val (.int (k : Int)), .val B2, .val (.int ((a : Int) + m)), .val (.int (tw m)), j11, .val (.str [x]), .val (.lst [.int ((w.length : Int) * tw m), .int ((w.count x : Int) * tw m), toD (form w), .bl true]), .val (.int (s : Int)), .val (.int ((s : Int) * w.length + k)), .val (plD (fst1 x w)), .emp, .emp, .emp, .emp, .emp, .emp, .emp, .emp, .emp, .emp, .emp, .emp]) (by simp -implicitDefEqProofs [-x_eIf, fs]) ?_
      refine nx_seq (L1 := [.par (.l d3), .val (.str ls), .val (bkE false b), .val (.int (a : Int)), .val (.str w), .val (toD (form w)), .val (.int (m : Int)), .val (.int (k : Int)), .val B2, .val (.int ((a : Int) + m)), .val (.int (tw m)), j11, .val (.str [x]), .val (.lst [.int ((w.length : Int) * tw m), .int ((w.count x : Int) * tw m), toD (form w), .bl true]), .val (.int (s : Int)), .val (.int ((s : Int) * w.length + k)), .val (plD (fst1 x w)), .val (plD ((lst1 x w).map (· + q * w.length))), .emp, .emp, .emp, .emp, .emp, .emp, .emp, .emp, .emp, .emp, .emp]) (by simp -implicitDefEqProofs [-x_eIf, las]) ?_
      refine nx_seq (L1 := [.par (.l d3), .val (.str ls), .val (bkE false b), .val (.int (a : Int)), .val (.str w), .val (toD (form w)), .val (.int (m : Int)), .val (.int (k : Int)), .val B2, .val (.int ((a : Int) + m)), .val (.int (tw m)), j11, .val (.str [x]), .val (.lst [.str [w[k]], plD (fst1 x w), plD ((lst1 x w).map (· + q * w.length)), .non]), .val (.int (s : Int)), .val (.int ((s : Int) * w.length + k)), .val (plD (fst1 x w)), .val (plD ((lst1 x w).map (· + q * w.length))), .emp, .emp, .emp, .emp, .emp, .emp, .emp, .emp, .emp, .emp, .emp]) (by simp -implicitDefEqProofs [l1, fpT, lpT, g1, l2]) ?_
      refine nx_seq (L1 := [.par (.l d3), .val (.str ls), .val (bkE false b), .val (.int (a : Int)), .val (.str w), .val (toD (form w)), .val (.int (m : Int)), .val (.int (k : Int)), .val B2, .val (.int ((a : Int) + m)), .val (.int (tw m)), j11, .val (.str [x]), .val (.lst [.str [w[k]], plD (fst1 x w), plD ((lst1 x w).map (· + q * w.length)), .non]), .val (.int (s : Int)), .val (.int ((s : Int) * w.length + k)), .val (plD (fst1 x w)), .val (plD ((lst1 x w).map (· + q * w.length))), .emp, .emp, .emp, .emp, .emp, .emp, .emp, .emp, .emp, .emp, .emp]) (by simp -implicitDefEqProofs [ixk, sA]) ?_
      refine nx_seq (L1 := [.par (.l d3), .val (.str ls), .val (bkE false b), .val (.int (a : Int)), .val (.str w), .val (toD (form w)), .val (.int (m : Int)), .val (.int (k : Int)), .val B2, .val (.int ((a : Int) + m)), .val (.int (tw m)), j11, .val (.str [x]), .val (.lst [.str [w[k]], plD (fst1 x w), plD ((lst1 x w).map (· + q * w.length)), .non]), .val (.int (s : Int)), .val (.int ((s : Int) * w.length + k)), .val (plD (fst1 x w)), .val (plD ((lst1 x w).map (· + q * w.length))), .val (.str row), .emp, .emp, .emp, .emp, .emp, .emp, .emp, .emp, .emp, .emp]) (by simp -implicitDefEqProofs [g3, cr]) ?_
      refine nx_seq (L1 := [.par (.l d3), .val (.str ls), .val (bkE false b), .val (.int (a : Int)), .val (.str w), .val (toD (form w)), .val (.int (m : Int)), .val (.int (k : Int)), .val B2, .val (.int ((a : Int) + m)), .val (.int (tw m)), j11, .val (.str [x]), .val (.lst [.str SU, toD (form SU)]), .val (.int (s : Int)), .val (.int ((s : Int) * w.length + k)), .val (plD (fst1 x w)), .val (plD ((lst1 x w).map (· + q * w.length))), .val (.str row), .emp, .emp, .emp, .emp, .emp, .emp, .emp, .emp, .emp, .emp]) (by simp -implicitDefEqProofs [st, fb]) ?_
      refine nx_seq (L1 := [.par (.l d3), .val (.str ls), .val (bkE false b), .val (.int (a : Int)), .val (.str w), .val (toD (form w)), .val (.int (m : Int)), .val (.int (k : Int)), .val B2, .val (.int ((a : Int) + m)), .val (.int (tw m)), j11, .val (.str [x]), .val (.lst [.str SU, toD (form SU)]), .val (.int (s : Int)), .val (.int ((s : Int) * w.length + k)), .val (plD (fst1 x w)), .val (plD ((lst1 x w).map (· + q * w.length))), .val (.str row), .emp, .emp, .emp, .emp, .emp, .emp, .emp, .emp, .emp, .emp]) ?_ rfl
      by_cases h3 : (s : Int) + 3 < tw m
      · have e := fin h3
        subst e
        simp -implicitDefEqProofs [h3, lfr, sB]
      · simp -implicitDefEqProofs [h3]
  obtain ⟨c6, j7, j13, j14, j15, j16, j17, j18, n13, n15, b6, h14⟩ := blk
  refine en_nx (L' := [.par (.l c6), .val (.str ls), .val (bkE false b), .val (.int (a : Int)), .val (.str w), .val (toD (form w)), .val (.int (m : Int)), j7, .val B2, .val (.int ((a : Int) + m)), .val (.int (tw m)), j11, .val (.str [x]), j13, j14, j15, j16, j17, j18, .emp, .emp, .emp, .emp, .emp, .emp, .emp, .emp, .emp, .emp]) (by exact h14) ?_
  -- two pieces, one behind the other
  obtain ⟨p1, c7, a15, b7, p1a, p1b⟩ := take_at (n := (a : Int) + 1) b6 (by omega) (by omega) (by omega)
  obtain ⟨p2, c8, a15', b8, p2a, p2b⟩ := take_at (n := (a : Int) + 1) b7 (by omega) (by omega) (by omega)
  obtain ⟨i, rfl⟩ : ∃ i : Nat, p1 = (i : Int) := ⟨p1.toNat, by omega⟩
  obtain ⟨j, rfl⟩ : ∃ j : Nat, p2 = (j : Int) := ⟨p2.toNat, by omega⟩
  refine en_nx (L' := [.par (.l c8), .val (.str ls), .val (bkE false b), .val (.int (a : Int)), .val (.str w), .val (toD (form w)), .val (.int (m : Int)), j7, .val B2, .val (.int ((a : Int) + m)), .val (.int (tw m)), j11, .val (.str [x]), j13, j14, j15, j16, j17, j18, .val (.int (i : Int)), .val (.int (j : Int)), .emp, .emp, .emp, .emp, .emp, .emp, .emp, .emp]) (by simp -implicitDefEqProofs [B__law_right_15, a15, a15']) ?_
  have add1 : gAdd (bkE false b) (.tup [.tup [.int (i : Int), .int (j : Int)]]) = some (bkE false (b ++ [[.i i, .i j]])) := by
    have e : bkE false (b ++ [[.i i, .i j]]) = .tup (b.map (pcE false) ++ [.tup [.int (i : Int), .int (j : Int)]]) := by
      show D.tup _ = _
      rw [List.map_append]; rfl
    rw [e]
    show (if _ then _ else none) = _
    rw [if_pos]
    refine ⟨?_, by simp, ?_⟩
    · intro h
      have := congrArg List.length h
      rw [List.length_map] at this
      have h0 : ([] : List D).length = 0 := rfl
      omega
    · rw [List.length_map]; show b.length + 1 ≤ 16777216; omega
  have ok2 : BkOk (b ++ [[.i i, .i j]]) 0 := BkOk_app.mpr ⟨hb.1, fun x hx => by
    have : x = .i i ∨ x = .i j := by simpa using hx
    rcases this with rfl | rfl
    · show i < 0 + b.length; omega
    · show j < 0 + b.length; omega, trivial⟩
  have pc2 : Pcs (b ++ [[.i i, .i j]]) := ⟨by rw [List.length_append]; show b.length + 1 ≤ 1000; omega, fun p h => by
    rcases List.mem_append.mp h with z | z
    · exact hp.2 p z
    · rw [List.mem_singleton] at z; subst z; show 2 ≤ 1000; decide⟩
  have f2 := form_in_at (s := false) ok2 pc2 (k := a + 1) (by rw [List.length_append]; show a + 1 < b.length + 1; omega)
  have t2 : told (b ++ [[.i i, .i j]]) (a + 1) = told b i ++ told b j := by
    rw [ha, told_snoc]
    show ([ptT (tolds b) (.i i), ptT (tolds b) (.i j)]).flatten = _
    simp [ptT, told]
  rw [t2] at f2
  have fi := form_in_at (s := false) hb.1 hp (k := i) (by omega)
  have fj := form_in_at (s := false) hb.1 hp (k := j) (by omega)
  have pr := a_product (told_ok hb.1 i) (told_ok hb.1 j)
  have s17 := same_f ((told_ok hb.1 i).app (told_ok hb.1 j))
  push_cast at f2
  generalize hB3 : bkE false (b ++ [[.i i, .i j]]) = B3 at *
  refine en_nx (L' := [.par (.l c8), .val (.str ls), .val (bkE false b), .val (.int (a : Int)), .val (.str w), .val (toD (form w)), .val (.int (m : Int)), j7, .val B2, .val (.int ((a : Int) + m)), .val (.int (tw m)), j11, .val (.str [x]), j13, j14, j15, j16, j17, j18, .val (.int (i : Int)), .val (.int (j : Int)), .val B3, .emp, .emp, .emp, .emp, .emp, .emp, .emp]) (by simp -implicitDefEqProofs [B__law_right_16, add1]) ?_
  refine en_nx (L' := [.par (.l c8), .val (.str ls), .val (bkE false b), .val (.int (a : Int)), .val (.str w), .val (toD (form w)), .val (.int (m : Int)), j7, .val B2, .val (.int ((a : Int) + m)), .val (.int (tw m)), j11, .val (.str [x]), j13, j14, j15, j16, j17, j18, .val (.int (i : Int)), .val (.int (j : Int)), .val B3, .emp, .emp, .emp, .emp, .emp, .emp, .emp]) (by simp -implicitDefEqProofs [B__law_right_17, f2, fi, fj, pr, s17]) ?_
  -- from behind, renamed
  have inR : ∀ p ∈ b, (e1 gTup (sqO (oLc (itV (eRev (eMv 27))) (gN 28) etT (eIf (etB (eIsi ["int"] (eMv 28))) (eMv 28) (eRev (eMv 28))) [28]))) [.par (.l c8), .val (.str ls), .val (bkE false b), .val (.int (a : Int)), .val (.str w), .val (toD (form w)), .val (.int (m : Int)), j7, .val B2, .val (.int ((a : Int) + m)), .val (.int (tw m)), j11, .val (.str [x]), j13, j14, j15, j16, j17, j18, .val (.int (i : Int)), .val (.int (j : Int)), .val B3, .emp, .emp, .emp, .emp, .emp, .val (pcE false p), .emp] = some (pcE false (p.reverse.map (ptM List.reverse)), [.par (.l c8), .val (.str ls), .val (bkE false b), .val (.int (a : Int)), .val (.str w), .val (toD (form w)), .val (.int (m : Int)), j7, .val B2, .val (.int ((a : Int) + m)), .val (.int (tw m)), j11, .val (.str [x]), j13, j14, j15, j16, j17, j18, .val (.int (i : Int)), .val (.int (j : Int)), .val B3, .emp, .emp, .emp, .emp, .emp, .val (pcE false p), .emp]) := fun p hpm => by
    have k1 := lc_mA (enc := ptD) (j := 28) (elt := eIf (etB (eIsi ["int"] (eMv 28))) (eMv 28) (eRev (eMv 28))) (Lw := [.par (.l c8), .val (.str ls), .val (bkE false b), .val (.int (a : Int)), .val (.str w), .val (toD (form w)), .val (.int (m : Int)), j7, .val B2, .val (.int ((a : Int) + m)), .val (.int (tw m)), j11, .val (.str [x]), j13, j14, j15, j16, j17, j18, .val (.int (i : Int)), .val (.int (j : Int)), .val B3, .emp, .emp, .emp, .emp, .emp, .val (pcE false p), .emp]) rfl (fun y => ptD (ptM List.reverse y)) p.reverse (fun y hy => by cases y <;> simp [ptD, ptM, isiS])
    have hl : p.reverse.length ≤ 100000 := by rw [List.length_reverse]; have := hp.2 p hpm; omega
    have rv : gRev (pcE false p) = some (.tup (p.reverse.map ptD)) := by show some (D.tup (p.map ptD).reverse) = _; rw [List.map_reverse]
    have e3 : pcE false (p.reverse.map (ptM List.reverse)) = .tup (p.reverse.map fun y => ptD (ptM List.reverse y)) := by show D.tup _ = _; rw [List.map_map]; rfl
    rw [e3]
    generalize (p.reverse.map fun y => ptD (ptM List.reverse y)) = Y at k1 ⊢
    generalize p.reverse = pr at k1 hl rv
    generalize pcE false p = PP at k1 rv ⊢
    simp -implicitDefEqProofs [rv, x_noPar, hl, k1, DD.gTup]
  have k18 := lc_mA (enc := pcE false) (j := 27) (elt := (e1 gTup (sqO (oLc (itV (eRev (eMv 27))) (gN 28) etT (eIf (etB (eIsi ["int"] (eMv 28))) (eMv 28) (eRev (eMv 28))) [28])))) (Lw := [.par (.l c8), .val (.str ls), .val (bkE false b), .val (.int (a : Int)), .val (.str w), .val (toD (form w)), .val (.int (m : Int)), j7, .val B2, .val (.int ((a : Int) + m)), .val (.int (tw m)), j11, .val (.str [x]), j13, j14, j15, j16, j17, j18, .val (.int (i : Int)), .val (.int (j : Int)), .val B3, .emp, .emp, .emp, .emp, .emp, .emp, .emp]) rfl (fun p => pcE false (p.reverse.map (ptM List.reverse))) b inR
  have hbl : b.length ≤ 100000 := by omega
  have e18 : (D.tup (b.map fun p => pcE false (p.reverse.map (ptM List.reverse)))) = bkE false (backB b) := by show _ = D.tup _; rw [backB, List.map_map]; rfl
  have tb := told_back b a
  have fB := form_in_at (s := false) (backB_ok hb.1) (back_pcs hp) (k := a) (by rw [backB, List.length_map]; omega)
  have lB := fun i => letter_at_at (s := false) (i := i) (backB_ok hb.1) (back_pcs hp) (k := a) (by rw [backB, List.length_map]; omega) (by rw [backB, List.length_map]; omega)
  rw [tb, hW] at fB
  simp only [tb, hW] at lB
  generalize bkE false (backB b) = BB at e18 fB lB
  generalize hY18 : (b.map fun p => pcE false (p.reverse.map (ptM List.reverse))) = Y18 at k18 e18
  have L18 : oLc (itV (eMv 2)) (gN 27) etT (e1 gTup (sqO (oLc (itV (eRev (eMv 27))) (gN 28) etT (eIf (etB (eIsi ["int"] (eMv 28))) (eMv 28) (eRev (eMv 28))) [28]))) [27] [.par (.l c8), .val (.str ls), .val (bkE false b), .val (.int (a : Int)), .val (.str w), .val (toD (form w)), .val (.int (m : Int)), j7, .val B2, .val (.int ((a : Int) + m)), .val (.int (tw m)), j11, .val (.str [x]), j13, j14, j15, j16, j17, j18, .val (.int (i : Int)), .val (.int (j : Int)), .val B3, .emp, .emp, .emp, .emp, .emp, .emp, .emp] = some (.l Y18, [.par (.l c8), .val (.str ls), .val (bkE false b), .val (.int (a : Int)), .val (.str w), .val (toD (form w)), .val (.int (m : Int)), j7, .val B2, .val (.int ((a : Int) + m)), .val (.int (tw m)), j11, .val (.str [x]), j13, j14, j15, j16, j17, j18, .val (.int (i : Int)), .val (.int (j : Int)), .val B3, .emp, .emp, .emp, .emp, .emp, .emp, .emp]) := by simp -implicitDefEqProofs [-x_e1, x_noPar, hbl, k18]
  refine en_nx (L' := [.par (.l c8), .val (.str ls), .val (bkE false b), .val (.int (a : Int)), .val (.str w), .val (toD (form w)), .val (.int (m : Int)), j7, .val B2, .val (.int ((a : Int) + m)), .val (.int (tw m)), j11, .val (.str [x]), j13, j14, j15, j16, j17, j18, .val (.int (i : Int)), .val (.int (j : Int)), .val B3, .val BB, .emp, .emp, .emp, .emp, .emp, .emp]) (by simp -implicitDefEqProofs [B__law_right_18, -x_oLc, L18, DD.gTup, e18]) ?_
  obtain ⟨cs, c9, hcs, b9, a19, j19⟩ := order_at b8 (by omega)
  have gal : gList (.s [97, 98, 99, 100, 101, 102, 103, 104]) = some (.l (alp.map sgn)) := rfl
  generalize alp.map sgn = AL at a19 gal
  generalize cs.map sgn = CS at a19 j19
  refine en_nx (L' := [.par (.l c9), .val (.str ls), .val (bkE false b), .val (.int (a : Int)), .val (.str w), .val (toD (form w)), .val (.int (m : Int)), j7, .val B2, .val (.int ((a : Int) + m)), .val (.int (tw m)), j11, .val (.str [x]), j13, j14, j15, j16, j17, j18, .val (.int (i : Int)), .val (.int (j : Int)), .val B3, .val BB, .val (.str cs), .emp, .emp, .emp, .emp, .emp]) (by simp -implicitDefEqProofs [B__law_right_19, gal, a19, j19]) ?_
  have okt : ∀ p ∈ b, ∀ u, Pt.t u ∈ p → Okw u ∧ u.length ≤ 100000 := fun p hpm u hu => by
    obtain ⟨n, hn, e⟩ := List.getElem_of_mem hpm
    have z := BkOk_at hb.1 (List.getElem?_eq_getElem hn)
    rw [e] at z
    exact z _ hu
  have inN : ∀ p ∈ b, (e1 gTup (sqO (oLc (itV (eMv 27)) (gN 28) etT (eIf (etB (eIsi ["int"] (eMv 28))) (eMv 28) (eCall G_renamed (gV (eMv 28) (gV (eC (.str [97, 98, 99, 100, 101, 102, 103, 104])) (gV (eMv 23) gNil0))))) [28]))) [.par (.l c9), .val (.str ls), .val (bkE false b), .val (.int (a : Int)), .val (.str w), .val (toD (form w)), .val (.int (m : Int)), j7, .val B2, .val (.int ((a : Int) + m)), .val (.int (tw m)), j11, .val (.str [x]), j13, j14, j15, j16, j17, j18, .val (.int (i : Int)), .val (.int (j : Int)), .val B3, .val BB, .val (.str cs), .emp, .emp, .emp, .val (pcE false p), .emp] = some (pcE false (p.map (ptM (List.map (rnm alp cs)))), [.par (.l c9), .val (.str ls), .val (bkE false b), .val (.int (a : Int)), .val (.str w), .val (toD (form w)), .val (.int (m : Int)), j7, .val B2, .val (.int ((a : Int) + m)), .val (.int (tw m)), j11, .val (.str [x]), j13, j14, j15, j16, j17, j18, .val (.int (i : Int)), .val (.int (j : Int)), .val B3, .val BB, .val (.str cs), .emp, .emp, .emp, .val (pcE false p), .emp]) := fun p hpm => by
    have k1 := lc_mA (enc := ptD) (j := 28) (elt := eIf (etB (eIsi ["int"] (eMv 28))) (eMv 28) (eCall G_renamed (gV (eMv 28) (gV (eC (.str [97, 98, 99, 100, 101, 102, 103, 104])) (gV (eMv 23) gNil0))))) (Lw := [.par (.l c9), .val (.str ls), .val (bkE false b), .val (.int (a : Int)), .val (.str w), .val (toD (form w)), .val (.int (m : Int)), j7, .val B2, .val (.int ((a : Int) + m)), .val (.int (tw m)), j11, .val (.str [x]), j13, j14, j15, j16, j17, j18, .val (.int (i : Int)), .val (.int (j : Int)), .val B3, .val BB, .val (.str cs), .emp, .emp, .emp, .val (pcE false p), .emp]) rfl (fun y => ptD (ptM (List.map (rnm alp cs)) y)) p (fun y hy => by
      cases y with
      | t u =>
        have := a_ren hcs (okt p hpm u hy).1 (okt p hpm u hy).2
        simp -implicitDefEqProofs [ptD, ptM, isiS, this]
      | i j => simp -implicitDefEqProofs [ptD, ptM, isiS])
    have hl : p.length ≤ 100000 := by have := hp.2 p hpm; omega
    have e3 : pcE false (p.map (ptM (List.map (rnm alp cs)))) = .tup (p.map fun y => ptD (ptM (List.map (rnm alp cs)) y)) := by show D.tup _ = _; rw [List.map_map]; rfl
    have iv : itemsD (pcE false p) = some (p.map ptD) := rfl
    rw [e3]
    generalize (p.map fun y => ptD (ptM (List.map (rnm alp cs)) y)) = Y at k1 ⊢
    have hl2 : (p.map ptD).length ≤ 100000 := by rw [List.length_map]; exact hl
    generalize p.map ptD = pr at k1 hl2 iv
    generalize pcE false p = PP at k1 iv ⊢
    simp -implicitDefEqProofs [iv, x_noPar, hl2, k1, DD.gTup]
  have k20 := lc_mA (enc := pcE false) (j := 27) (elt := (e1 gTup (sqO (oLc (itV (eMv 27)) (gN 28) etT (eIf (etB (eIsi ["int"] (eMv 28))) (eMv 28) (eCall G_renamed (gV (eMv 28) (gV (eC (.str [97, 98, 99, 100, 101, 102, 103, 104])) (gV (eMv 23) gNil0))))) [28])))) (Lw := [.par (.l c9), .val (.str ls), .val (bkE false b), .val (.int (a : Int)), .val (.str w), .val (toD (form w)), .val (.int (m : Int)), j7, .val B2, .val (.int ((a : Int) + m)), .val (.int (tw m)), j11, .val (.str [x]), j13, j14, j15, j16, j17, j18, .val (.int (i : Int)), .val (.int (j : Int)), .val B3, .val BB, .val (.str cs), .emp, .emp, .emp, .emp, .emp]) rfl (fun p => pcE false (p.map (ptM (List.map (rnm alp cs))))) b inN
  have e20 : (D.tup (b.map fun p => pcE false (p.map (ptM (List.map (rnm alp cs)))))) = bkE false (namB (rnm alp cs) b) := by show _ = D.tup _; rw [namB, List.map_map]; rfl
  have tn := told_nam (rnm alp cs) b a
  have nmo := namB_ok (g := rnm alp cs) (fun u hu => rnm_ok hcs hu) hb.1
  have fN := form_in_at (s := false) nmo (nam_pcs hp) (k := a) (by rw [namB, List.length_map]; omega)
  have lN := fun i => letter_at_at (s := false) (i := i) nmo (nam_pcs hp) (k := a) (by rw [namB, List.length_map]; omega) (by rw [namB, List.length_map]; omega)
  rw [tn, hW] at fN
  simp only [tn, hW] at lN
  generalize bkE false (namB (rnm alp cs) b) = NB at e20 fN lN
  generalize hY20 : (b.map fun p => pcE false (p.map (ptM (List.map (rnm alp cs))))) = Y20 at k20 e20
  have L20 : oLc (itV (eMv 2)) (gN 27) etT (e1 gTup (sqO (oLc (itV (eMv 27)) (gN 28) etT (eIf (etB (eIsi ["int"] (eMv 28))) (eMv 28) (eCall G_renamed (gV (eMv 28) (gV (eC (.str [97, 98, 99, 100, 101, 102, 103, 104])) (gV (eMv 23) gNil0))))) [28]))) [27] [.par (.l c9), .val (.str ls), .val (bkE false b), .val (.int (a : Int)), .val (.str w), .val (toD (form w)), .val (.int (m : Int)), j7, .val B2, .val (.int ((a : Int) + m)), .val (.int (tw m)), j11, .val (.str [x]), j13, j14, j15, j16, j17, j18, .val (.int (i : Int)), .val (.int (j : Int)), .val B3, .val BB, .val (.str cs), .emp, .emp, .emp, .emp, .emp] = some (.l Y20, [.par (.l c9), .val (.str ls), .val (bkE false b), .val (.int (a : Int)), .val (.str w), .val (toD (form w)), .val (.int (m : Int)), j7, .val B2, .val (.int ((a : Int) + m)), .val (.int (tw m)), j11, .val (.str [x]), j13, j14, j15, j16, j17, j18, .val (.int (i : Int)), .val (.int (j : Int)), .val B3, .val BB, .val (.str cs), .emp, .emp, .emp, .emp, .emp]) := by simp -implicitDefEqProofs [-x_e1, x_noPar, hbl, k20]
  refine en_nx (L' := [.par (.l c9), .val (.str ls), .val (bkE false b), .val (.int (a : Int)), .val (.str w), .val (toD (form w)), .val (.int (m : Int)), j7, .val B2, .val (.int ((a : Int) + m)), .val (.int (tw m)), j11, .val (.str [x]), j13, j14, j15, j16, j17, j18, .val (.int (i : Int)), .val (.int (j : Int)), .val B3, .val BB, .val (.str cs), .val NB, .emp, .emp, .emp, .emp]) (by simp -implicitDefEqProofs [B__law_right_20, -x_oLc, L20, DD.gTup, e20]) ?_
  obtain ⟨pl, c10, a21, b10, p3a, p3b⟩ := take_at (n := (w.length : Int) + 1) b9 (by omega) (by omega) (by omega)
  obtain ⟨pl, rfl⟩ : ∃ n : Nat, pl = (n : Int) := ⟨pl.toNat, by omega⟩
  refine en_nx (L' := [.par (.l c10), .val (.str ls), .val (bkE false b), .val (.int (a : Int)), .val (.str w), .val (toD (form w)), .val (.int (m : Int)), j7, .val B2, .val (.int ((a : Int) + m)), .val (.int (tw m)), j11, .val (.str [x]), j13, j14, .val (.int (pl : Int)), j16, j17, j18, .val (.int (i : Int)), .val (.int (j : Int)), .val B3, .val BB, .val (.str cs), .val NB, .emp, .emp, .emp, .emp]) (by simp -implicitDefEqProofs [B__law_right_21, a21, n15]) ?_
  have lA := letter_at_at (s := false) (i := (pl : Int)) hb.1 hp (k := a) (by omega) (by omega)
  rw [hW] at lA
  have lB := lB ((w.length : Int) - 1 - pl)
  have lN := lN (pl : Int)
  have hrev : ltrD w.reverse ((w.length : Int) - 1 - pl) = ltrD w (pl : Int) := by
    unfold ltrD
    rw [if_pos (show (0 : Int) ≤ (pl : Int) by omega), Int.toNat_natCast]
    by_cases h : pl < w.length
    · rw [if_pos (by omega), List.getElem?_reverse (by omega)]
      rw [show w.length - 1 - ((w.length : Int) - 1 - pl).toNat = pl by omega]
    · rw [if_neg (by omega), List.getElem?_eq_none (by omega)]
  rw [hrev] at lB
  have fb := a_back hw
  have fr := a_renamed hcs hw
  obtain ⟨at_, hat⟩ : ∃ d, ltrD w (pl : Int) = d := ⟨_, rfl⟩
  obtain ⟨an, han⟩ : ∃ d, ltrD (w.map (rnm alp cs)) (pl : Int) = d := ⟨_, rfl⟩
  rw [hat] at lA lB
  rw [han] at lN
  refine en_nx (L' := [.par (.l c10), .val (.str ls), .val (bkE false b), .val (.int (a : Int)), .val (.str w), .val (toD (form w)), .val (.int (m : Int)), j7, .val B2, .val (.int ((a : Int) + m)), .val (.int (tw m)), j11, .val (.str [x]), j13, j14, .val (.int (pl : Int)), j16, j17, j18, .val (.int (i : Int)), .val (.int (j : Int)), .val B3, .val BB, .val (.str cs), .val NB, .val at_, .emp, .emp, .emp]) (by simp -implicitDefEqProofs [B__law_right_22, lA]) ?_
  refine en_nx (L' := [.par (.l c10), .val (.str ls), .val (bkE false b), .val (.int (a : Int)), .val (.str w), .val (toD (form w)), .val (.int (m : Int)), j7, .val B2, .val (.int ((a : Int) + m)), .val (.int (tw m)), j11, .val (.str [x]), .val (.lst [toD (form w.reverse), at_, toD (form (w.map (rnm alp cs))), an]), j14, .val (.int (pl : Int)), j16, j17, j18, .val (.int (i : Int)), .val (.int (j : Int)), .val B3, .val BB, .val (.str cs), .val NB, .val at_, .emp, .emp, .emp]) (by simp -implicitDefEqProofs [B__law_right_23, n13, fB, lB, fN, lN, gSubI]) ?_
  have ev : (eIf (etB (eOp gIs (eMv 25) (eC .non))) (eC .non) (eIxN 23 (eM1 gIndex (eC (.str [97, 98, 99, 100, 101, 102, 103, 104])) (sqL 25)))) [.par (.l c10), .val (.str ls), .val (bkE false b), .val (.int (a : Int)), .val (.str w), .val (toD (form w)), .val (.int (m : Int)), j7, .val B2, .val (.int ((a : Int) + m)), .val (.int (tw m)), j11, .val (.str [x]), .val (.lst [toD (form w.reverse), at_, toD (form (w.map (rnm alp cs))), an]), j14, .val (.int (pl : Int)), j16, j17, j18, .val (.int (i : Int)), .val (.int (j : Int)), .val B3, .val BB, .val (.str cs), .val NB, .val at_, .emp, .emp, .emp] = some (an, [.par (.l c10), .val (.str ls), .val (bkE false b), .val (.int (a : Int)), .val (.str w), .val (toD (form w)), .val (.int (m : Int)), j7, .val B2, .val (.int ((a : Int) + m)), .val (.int (tw m)), j11, .val (.str [x]), .val (.lst [toD (form w.reverse), at_, toD (form (w.map (rnm alp cs))), an]), j14, .val (.int (pl : Int)), j16, j17, j18, .val (.int (i : Int)), .val (.int (j : Int)), .val B3, .val BB, .val (.str cs), .val NB, .val at_, .emp, .emp, .emp]) := by
    rw [← hat, ← han]
    unfold ltrD
    rw [if_pos (show (0 : Int) ≤ (pl : Int) by omega), if_pos (show (0 : Int) ≤ (pl : Int) by omega), Int.toNat_natCast, List.getElem?_map]
    cases hwp : w[pl]? with
    | none =>
      have q : gIs .non .non = some (.bl true) := rfl
      simp -implicitDefEqProofs [q]
    | some y =>
      have hy : y ∈ alp := alp_of (hw y (List.mem_of_getElem? hwp))
      obtain ⟨n, hn, hlt, er⟩ := rnm_at hcs hy
      have q : gIs (.str [y]) .non = some (.bl false) := rfl
      have gi : gIndex alp (.s [y]) = some (.int (n : Int)) := by show (fst1 y alp).map _ = _; rw [hn]; rfl
      have gx : gIxS (.s cs) (.int (n : Int)) = some (.str [rnm alp cs y]) := by
        show (atI cs _).map _ = _
        rw [atI_nat (List.getElem?_eq_getElem hlt), er]; rfl
      simp -implicitDefEqProofs [q, gi, gx]
  refine en_nx (L' := [.par (.l c10), .val (.str ls), .val (bkE false b), .val (.int (a : Int)), .val (.str w), .val (toD (form w)), .val (.int (m : Int)), j7, .val B2, .val (.int ((a : Int) + m)), .val (.int (tw m)), j11, .val (.str [x]), .val (.lst [toD (form w.reverse), at_, toD (form (w.map (rnm alp cs))), an]), j14, .val (.int (pl : Int)), j16, j17, j18, .val (.int (i : Int)), .val (.int (j : Int)), .val B3, .val BB, .val (.str cs), .val NB, .val at_, .val (.lst [toD (form w.reverse), at_, toD (form (w.map (rnm alp cs))), an]), .emp, .emp]) (by simp -implicitDefEqProofs [B__law_right_24, -x_eIf, ev, fb, fr]) ?_
  have s25 := same_l (xs := [toD (form w.reverse), at_, toD (form (w.map (rnm alp cs))), an]) (by simp) (by
    intro y hy
    have pk : ∀ (u : List Nat) i, sok 10 (ltrD u i) := fun u i => by
      unfold ltrD
      split
      · cases u[i.toNat]? <;> trivial
      · trivial
    have : y = toD (form w.reverse) ∨ y = at_ ∨ y = toD (form (w.map (rnm alp cs))) ∨ y = an := by simpa using hy
    rcases this with rfl | rfl | rfl | rfl
    · exact sok_f hw.rev
    · rw [← hat]; exact pk _ _
    · exact sok_f (rnm_ok hcs hw)
    · rw [← han]; exact pk _ _)
  exact en_rt (L' := [.par (.l c10), .val (.str ls), .val (bkE false b), .val (.int (a : Int)), .val (.str w), .val (toD (form w)), .val (.int (m : Int)), j7, .val B2, .val (.int ((a : Int) + m)), .val (.int (tw m)), j11, .val (.str [x]), .val (.lst [toD (form w.reverse), at_, toD (form (w.map (rnm alp cs))), an]), j14, .val (.int (pl : Int)), j16, j17, j18, .val (.int (i : Int)), .val (.int (j : Int)), .val B3, .val BB, .val (.str cs), .val NB, .val at_, .val (.lst [toD (form w.reverse), at_, toD (form (w.map (rnm alp cs))), an]), .emp, .emp]) (by simp -implicitDefEqProofs [B__law_right_25, s25]) ⟨rfl, c10, rfl, b10.mono (by omega)⟩
end DG

end
section
set_option Elab.async false
set_option linter.all false
set_option maxRecDepth 100000
set_option maxHeartbeats 4000000
/-! LT: the law k82: box, law. -/
namespace DG
open PySem PySem.Spec PyProof.Rows L2 RZ DD FM
open TL (joinL)
open Classical
theorem box_at {xs : List Int} {k : Nat} (hk : k ≤ 1000) : ∃ c, V__law_box [.v (.lst (xs.map .int)), .v (.int k)] = some (.o (.l c), []) ∧ Box c 0 := by
  obtain ⟨x, hx⟩ := intAt (xs := xs) (k := k)
  have m1 : gMul (.int 39373) (.int (k : Int)) = some (.int (39373 * (k : Int))) := mulL (by omega)
  have m2 : ∀ (i : Int) (p : Prop) [Decidable p], gMul (.int i) (.int (if p then 1 else 0)) = some (.int (i * (if p then 1 else 0))) := fun i p _ => mulR (by split <;> decide)
  have m3 : gMul (.int 0) (.int 0) = some (.int 0) := rfl
  have d1 : ∀ i, gMod (.int i) (.int 2305843009213693951) = some (.int (i % 2305843009213693951)) := fun i => modP (by omega)
  have pw : gPow (.int 10) (.int 18) = some (.int (10 ^ 18)) := rfl
  have key : ∃ y z : Int, V__law_box [.v (.lst (xs.map .int)), .v (.int k)] = some (.o (.l [.int y, .int z, .int 0]), []) := by
    by_cases h : k < xs.length
    · rw [if_pos h] at hx
      apply Exists.intro
      apply Exists.intro
      simp [V__law_box, fnD, B__law_box, startE, parIx, csAt, h, hx, m1, m2, d1, pw]
      exact ⟨rfl, rfl⟩
    · apply Exists.intro
      apply Exists.intro
      simp [V__law_box, fnD, B__law_box, startE, parIx, csAt, h, m1, m3, d1, pw]
      exact ⟨rfl, rfl⟩
  obtain ⟨y, z, h⟩ := key
  exact ⟨_, h, y, z, 0, rfl, by decide, by decide⟩
/-! ### the law -/
theorem laps {d0 d1 : Slot} {s2 : Slot} : ∀ (ds : List D) (c : List D) (N : Nat), Box c N → N + 20000 * ds.length < 2 ^ 40 → ∃ c', lcD (gN 4) etT (eCall V__law_right (gS 3 gNil0)) [4] ds [d0, d1, s2, .liv (.l c), .emp] = some (ds.map fun _ => .bl true, [d0, d1, s2, .liv (.l c'), .emp])
  | [], c, N, _, _ => ⟨c, rfl⟩
  | d :: ds, c, N, hB, hN => by
    have hN : N + 20000 * (ds.length + 1) < 2 ^ 40 := hN
    obtain ⟨c1, h1, b1⟩ := right_at hB (by omega)
    obtain ⟨c', h2⟩ := laps (d0 := d0) (d1 := d1) (s2 := s2) ds c1 (N + 20000) b1 (by omega)
    refine ⟨c', ?_⟩
    simp [lcD, h1, h2]
theorem lapN {d0 d1 : Slot} {s2 : Slot} {c : List D} (hB : Box c 0) : ∃ c', lcD (gN 4) etT (eCall V__law_right (gS 3 gNil0)) [4] [.int 0, .int 1, .int 2, .int 3, .int 4, .int 5] [d0, d1, s2, .liv (.l c), .emp] = some ([.bl true, .bl true, .bl true, .bl true, .bl true, .bl true], [d0, d1, s2, .liv (.l c'), .emp]) :=
  laps (d0 := d0) (d1 := d1) (s2 := s2) [.int 0, .int 1, .int 2, .int 3, .int 4, .int 5] c 0 hB (by simp only [List.length_cons, List.length_nil]; omega)
noncomputable abbrev turn : SV := sSeq (sOw 3 (oCall V__law_box (gV (eMv 1) (gV (eMv 2) gNil0)))) (sSeq (sIf (tNo (etB (e1 gAll (sqO (oLc (itR1 (eC (.int 6))) (gN 4) etT (eCall V__law_right (gS 3 gNil0)) [4]))))) (sSeq (sRet (eC (.bl false))) sNx) sNx) sNx)
theorem turn3 {X : List D} {d0 s2 : Slot} {c c' : List D} (h : lcD (gN 4) etT (eCall V__law_right (gS 3 gNil0)) [4] [.int 0, .int 1, .int 2, .int 3, .int 4, .int 5] [d0, .val (.lst X), s2, .liv (.l c), .emp] = some ([.bl true, .bl true, .bl true, .bl true, .bl true, .bl true], [d0, .val (.lst X), s2, .liv (.l c'), .emp])) :
    sIf (tNo (etB (e1 gAll (sqO (oLc (itR1 (eC (.int 6))) (gN 4) etT (eCall V__law_right (gS 3 gNil0)) [4]))))) (sSeq (sRet (eC (.bl false))) sNx) sNx [d0, .val (.lst X), s2, .liv (.l c), .emp] = some (.nx [d0, .val (.lst X), s2, .liv (.l c'), .emp]) := by
  have hr : List.range 6 = [0, 1, 2, 3, 4, 5] := rfl
  simp [hr, noPar, h, gAll, blsOf]
theorem turn_at {ns xs : List Int} {k : Nat} (hk : k ≤ 1000) {s2 s3 : Slot} (h2 : ∀ c, s2 = .par c → False) (h3 : ∀ c, s3 = .par c → False) : ∃ c', (gN 2 (D.int (k : Int)) [.val (.scr ns), .val (.lst (xs.map .int)), s2, s3, .emp]) = some [.val (.scr ns), .val (.lst (xs.map .int)), .val (.int (k : Int)), s3, .emp] ∧ turn [.val (.scr ns), .val (.lst (xs.map .int)), .val (.int (k : Int)), s3, .emp] = some (.nx [.val (.scr ns), .val (.lst (xs.map .int)), .val (.int (k : Int)), .liv (.l c'), .emp]) := by
  obtain ⟨c, b0, b1⟩ := box_at (xs := xs) hk
  obtain ⟨c', b2⟩ := lapN (d0 := .val (.scr ns)) (d1 := .val (.lst (xs.map .int))) (s2 := .val (.int (k : Int))) b1
  refine ⟨c', ?_, ?_⟩
  · cases s2 <;> first | exact absurd rfl (fun z => h2 _ z) | rfl
  · have two : (sOw 3 (oCall V__law_box (gV (eMv 1) (gV (eMv 2) gNil0)))) [.val (.scr ns), .val (.lst (xs.map .int)), .val (.int (k : Int)), s3, .emp] = some (.nx [.val (.scr ns), .val (.lst (xs.map .int)), .val (.int (k : Int)), .liv (.l c), .emp]) := by
      clear b2 b1
      generalize xs.map D.int = X at *
      cases s3 <;> first | exact absurd rfl (fun z => h3 _ z) | simp [b0]
    unfold turn
    rw [sq_nx two, sq_nx (turn3 b2)]
    rfl
theorem turns {ns xs : List Int} : ∀ (ds : List Nat) (s2 s3 : Slot), (∀ k ∈ ds, k ≤ 1000) → (∀ c, s2 = .par c → False) → (∀ c, s3 = .par c → False) → ∃ s2' s3', forD (gN 2) turn (ds.map fun (k : Nat) => D.int (k : Int)) [.val (.scr ns), .val (.lst (xs.map .int)), s2, s3, .emp] = some (.nx [.val (.scr ns), .val (.lst (xs.map .int)), s2', s3', .emp])
  | [], s2, s3, _, _, _ => ⟨s2, s3, rfl⟩
  | k :: ds, s2, s3, hk, h2, h3 => by
    obtain ⟨c', g1, g2⟩ := turn_at (ns := ns) (xs := xs) (hk k List.mem_cons_self) h2 h3
    obtain ⟨s2', s3', g⟩ := turns (ns := ns) (xs := xs) ds (.val (.int (k : Int))) (.liv (.l c')) (fun k h => hk k (List.mem_cons_of_mem _ h)) (fun c z => nomatch z) (fun c z => nomatch z)
    refine ⟨s2', s3', ?_⟩
    show (gN 2 (D.int (k : Int)) _).bind (fun L1 => (turn L1).bind _) = _
    rw [g1]
    show (turn _).bind _ = _
    rw [g2]
    exact g
theorem law_run {ns : List Int} {X : List D} {M : Nat} (hm : X.length = M) (hb : (M : Int) < 4611686018427387904) (hc : V__law_cells [.v (.scr ns), .v (.int 2)] = some (.o (.l X), [])) {s2 s3 : Slot}
    (g : sFor (itR1 (e1 gLen (sqL 1))) (gN 2) turn [.val (.scr ns), .val (.lst X), .emp, .emp, .emp] = some (.nx [.val (.scr ns), .val (.lst X), s2, s3, .emp])) : V_law [.v (.scr ns)] = some (.v (.bl true), []) := by
  have a : (sAs (gN 1) (eFz (oCall V__law_cells (gV (eMv 0) (gV (eC (.int 2)) gNil0))))) [.val (.scr ns), .emp, .emp, .emp, .emp] = some (.nx [.val (.scr ns), .val (.lst X), .emp, .emp, .emp]) := by
    simp [hc]
  have r : (sSeq (sRet (eC (.bl true))) sNx) [.val (.scr ns), .val (.lst X), s2, s3, .emp] = some (.rt (.v (.bl true)) [.val (.scr ns), .val (.lst X), s2, s3, .emp]) := by
    simp
  have e : B_law V__law_cells V__law_right V__law_box (startE 5 [.v (.scr ns)]) = some (.rt (.v (.bl true)) [.val (.scr ns), .val (.lst X), s2, s3, .emp]) := by
    unfold B_law
    rw [show startE 5 [.v (.scr ns)] = [.val (.scr ns), .emp, .emp, .emp, .emp] from rfl, sq_nx a, sq_nx g, r]
  unfold V_law fnD
  rw [if_pos (show [Arg.v (D.scr ns)].length = 1 from rfl), e]
  rfl
theorem law_at {ns : List Int} (hl : ns.length ≤ 63) : V_law [.v (.scr ns)] = some (.v (.bl true), []) := by
  obtain ⟨xs, hx, hc⟩ := cells_at hl
  obtain ⟨s2', s3', g⟩ := turns (ns := ns) (xs := xs) (List.range xs.length) .emp .emp (fun k hk => by have := List.mem_range.mp hk; omega) (fun c z => nomatch z) (fun c z => nomatch z)
  have hb : (xs.length : Int) < 4611686018427387904 := by omega
  have hm : (xs.map D.int).length = xs.length := List.length_map ..
  refine law_run hm hb hc (s2 := s2') (s3 := s3') ?_
  have i : itR1 (e1 gLen (sqL 1)) [.val (.scr ns), .val (.lst (xs.map .int)), .emp, .emp, .emp] = some ((List.range xs.length).map fun (k : Nat) => D.int (k : Int), [.val (.scr ns), .val (.lst (xs.map .int)), .emp, .emp, .emp]) := by
    generalize xs.map D.int = X at hm
    simp [hm, hb]
  show (itR1 _ _).bind _ = _
  rw [i]
  exact g
end DG

end
section
set_option Elab.async false
set_option linter.all false
set_option maxRecDepth 100000
set_option maxHeartbeats 1000000
/-! Z77: level 0 of the defs that call themselves. -/
namespace DG
open PySem PySem.Spec PyProof.Rows L2 RZ DD FM
open Classical
def G_none : Fn := fun _ => none
theorem dep0 {w : List Nat} (h : dep (form w) ≤ 0) : w = [] := by
  by_cases hw : w = []
  · exact hw
  · rw [form_eq hw] at h
    have : max (dep (form (pf w))) (dep (form (sf w))) + 1 ≤ 0 := h
    omega
theorem zero_form_by : Le (G_form_by 0) (fnD 6 2 (B_form_by G_none G_first_gone G_last_new)) := by
  intro as r e
  unfold G_form_by at e
  split at e
  · rename_i w kv
    split at e
    · rename_i h
      obtain ⟨h1, h2, h3, h4⟩ := h
      have hw := dep0 h2
      subst hw
      cases e
      simp [fnD, B_form_by, startE, parIx, csAt, form_nil, toD, mm]
    · cases e
  · cases e
theorem zero_plan_by : Le (G_plan_by 0) (fnD 3 1 (B_plan_by G_none)) := le_F fun f h => by
  cases f with
  | e => simp [fnD, B_plan_by, startE, parIx, csAt, toD, plan]
  | n l a b r =>
    have hd : max (dep l) (dep r) + 1 ≤ 0 ∧ max (dep l) (dep r) + 1 ≤ 14 := h
    omega
theorem zero_lform : Le (G_lform 0) (fnD 3 1 (B__law_form G_lnew G_none)) := le_S fun w d h => by
  split at h
  · rename_i hs
    obtain ⟨h1, h2⟩ := hs
    have hw := dep0 h2
    subst hw
    cases h
    simp [fnD, B__law_form, startE, parIx, csAt, form_nil, toD]
  · cases h
theorem zero_tupled : Le (G_tupled 0) (fnD 2 1 (B_tupled G_none)) := by
  intro as r e
  unfold G_tupled at e
  split at e
  · rename_i w
    cases e
    simp [fnD, B_tupled, startE, parIx, csAt, isiS]
  · rename_i d _
    obtain ⟨f, h1, h2⟩ := Option.bind_eq_some_iff.mp e
    split at h2
    · rename_i hp
      exact absurd hp (Nat.not_lt_zero _)
    · cases h2
  · cases e
theorem zero_letters_by : Le (G_letters_by 0) (fnD 5 1 (B_letters_by G_none G_letters_of)) := le_F fun f h => absurd h.1 (Nat.not_lt_zero _)
theorem zero_same : Le (G_same 0) (fnD 4 2 (B__law_same G_none)) := le_E fun d h => False.elim h
end DG

end
section
set_option Elab.async false
set_option linter.all false
set_option maxRecDepth 100000
set_option maxHeartbeats 4000000
namespace DG
open PySem PySem.Spec PyProof.Rows L2 RZ DD
def topS (i : Nat) : Stmt := PySem.Challenge.pw_donetwice_k82_main_books_multiplied_and.main.body.getD i (.Pass ⟨0, 0, 0, 0⟩)
def BI : List Str := ["len", "set", "isinstance", "str", "sum", "min", "max", "int", "abs", "list", "enumerate", "range", "tuple", "zip", "all", "bool", "sorted"]
theorem t_len : B0 BI "len" (.builtin "len") := ⟨by decide +kernel, by decide +kernel, by decide +kernel, by decide +kernel⟩
theorem t_set : B0 BI "set" (.type "set") := ⟨by decide +kernel, by decide +kernel, by decide +kernel, by decide +kernel⟩
theorem t_isinstance : B0 BI "isinstance" (.builtin "isinstance") := ⟨by decide +kernel, by decide +kernel, by decide +kernel, by decide +kernel⟩
theorem t_str : B0 BI "str" (.type "str") := ⟨by decide +kernel, by decide +kernel, by decide +kernel, by decide +kernel⟩
theorem t_sum : B0 BI "sum" (.builtin "sum") := ⟨by decide +kernel, by decide +kernel, by decide +kernel, by decide +kernel⟩
theorem t_min : B0 BI "min" (.builtin "min") := ⟨by decide +kernel, by decide +kernel, by decide +kernel, by decide +kernel⟩
theorem t_max : B0 BI "max" (.builtin "max") := ⟨by decide +kernel, by decide +kernel, by decide +kernel, by decide +kernel⟩
theorem t_int : B0 BI "int" (.type "int") := ⟨by decide +kernel, by decide +kernel, by decide +kernel, by decide +kernel⟩
theorem t_abs : B0 BI "abs" (.builtin "abs") := ⟨by decide +kernel, by decide +kernel, by decide +kernel, by decide +kernel⟩
theorem t_list : B0 BI "list" (.type "list") := ⟨by decide +kernel, by decide +kernel, by decide +kernel, by decide +kernel⟩
theorem t_enumerate : B0 BI "enumerate" (.type "enumerate") := ⟨by decide +kernel, by decide +kernel, by decide +kernel, by decide +kernel⟩
theorem t_range : B0 BI "range" (.type "range") := ⟨by decide +kernel, by decide +kernel, by decide +kernel, by decide +kernel⟩
theorem t_tuple : B0 BI "tuple" (.type "tuple") := ⟨by decide +kernel, by decide +kernel, by decide +kernel, by decide +kernel⟩
theorem t_zip : B0 BI "zip" (.type "zip") := ⟨by decide +kernel, by decide +kernel, by decide +kernel, by decide +kernel⟩
theorem t_all : B0 BI "all" (.builtin "all") := ⟨by decide +kernel, by decide +kernel, by decide +kernel, by decide +kernel⟩
theorem t_bool : B0 BI "bool" (.type "bool") := ⟨by decide +kernel, by decide +kernel, by decide +kernel, by decide +kernel⟩
theorem t_sorted : B0 BI "sorted" (.builtin "sorted") := ⟨by decide +kernel, by decide +kernel, by decide +kernel, by decide +kernel⟩
/-! news -/
abbrev x_news : Stmt := topS 6
abbrev S_news : Scope := defScope x_news
def N_news : List Str := ["plan", "found", "letter"]
def T_news : List Str := ["plan", "found", "letter"]
theorem sc_news : FnScope N_news ["plan"] S_news := ⟨rfl, rfl, rfl, by decide +kernel, rfl, by decide +kernel, by decide +kernel⟩
theorem s_news_found : Ns N_news S_news T_news 1 "found" := ns_by (by decide +kernel)
theorem v_news_plan : Nm N_news S_news 0 "plan" := nm_by (by decide +kernel)
theorem s_news_letter : Ns N_news S_news T_news 2 "letter" := ns_by (by decide +kernel)
theorem v_news_letter : Nm N_news S_news 2 "letter" := nm_by (by decide +kernel)
theorem v_news_found : Nm N_news S_news 1 "found" := nm_by (by decide +kernel)
abbrev Γ_news : Gm := ⟨N_news, S_news, T_news, BI, [], []⟩
theorem J_news : JSs (Γ_news) (defBody x_news) (B_news) := (jss_cons (k_set s_news_found (je_str (l := []) (by decide +kernel) (by decide)) (fun _ => rfl)) (jss_cons (jst_for (ji_val (k_mv v_news_plan)) (k_name s_news_letter) (jss_cons (jst_if (jt_opS p_ni (k_mv v_news_letter) (k_l v_news_found) rfl) (jss_cons (k_aug s_news_found i_add (k_mv v_news_letter)) jss_nil) jss_nil) jss_nil) (fun _ _ => rfl)) (jss_cons (jst_ret (k_mv v_news_found)) jss_nil)))
/-! gones -/
abbrev x_gones : Stmt := topS 7
abbrev S_gones : Scope := defScope x_gones
def N_gones : List Str := ["plan"]
def T_gones : List Str := ["plan"]
theorem sc_gones : FnScope N_gones ["plan"] S_gones := ⟨rfl, rfl, rfl, by decide +kernel, rfl, by decide +kernel, by decide +kernel⟩
theorem v_gones_plan : Nm N_gones S_gones 0 "plan" := nm_by (by decide +kernel)
theorem g_gones_news : glS S_gones "news" = true := by decide +kernel
abbrev Γ_gones (c_news : Fn) : Gm := ⟨N_gones, S_gones, T_gones, BI, [("news", c_news)], []⟩
theorem J_gones (c_news : Fn) : JSs (Γ_gones c_news) (defBody x_gones) (B_gones c_news) := (jss_cons (jst_ret (je_rev (k_call ⟨g_gones_news, rfl, rfl⟩ (jg_v (je_rev (k_mv v_gones_plan)) jg_nil) (fun _ => rfl) (fun _ => rfl)))) jss_nil)
/-! check_some -/
abbrev x_check_some : Stmt := topS 8
abbrev S_check_some : Scope := defScope x_check_some
def N_check_some : List Str := ["plan"]
def T_check_some : List Str := ["plan"]
theorem sc_check_some : FnScope N_check_some ["plan"] S_check_some := ⟨rfl, rfl, rfl, by decide +kernel, rfl, by decide +kernel, by decide +kernel⟩
theorem v_check_some_plan : Nm N_check_some S_check_some 0 "plan" := nm_by (by decide +kernel)
abbrev Γ_check_some : Gm := ⟨N_check_some, S_check_some, T_check_some, BI, [], []⟩
theorem J_check_some : JSs (Γ_check_some) (defBody x_check_some) (B_check_some) := (jss_cons (jst_if (jt_cmp p_eq (k_mv v_check_some_plan) (je_str (l := []) (by decide +kernel) (by decide)) rfl) (jss_cons jst_no jss_nil) jss_nil) jss_nil)
/-! last_new -/
abbrev x_last_new : Stmt := topS 9
abbrev S_last_new : Scope := defScope x_last_new
def N_last_new : List Str := ["plan", "letter"]
def T_last_new : List Str := ["plan", "letter"]
theorem sc_last_new : FnScope N_last_new ["plan"] S_last_new := ⟨rfl, rfl, rfl, by decide +kernel, rfl, by decide +kernel, by decide +kernel⟩
theorem v_last_new_plan : Nm N_last_new S_last_new 0 "plan" := nm_by (by decide +kernel)
theorem g_last_new_check_some : glS S_last_new "check_some" = true := by decide +kernel
theorem g_last_new_news : glS S_last_new "news" = true := by decide +kernel
theorem s_last_new_letter : Ns N_last_new S_last_new T_last_new 1 "letter" := ns_by (by decide +kernel)
theorem v_last_new_letter : Nm N_last_new S_last_new 1 "letter" := nm_by (by decide +kernel)
abbrev Γ_last_new (c_check_some c_news : Fn) : Gm := ⟨N_last_new, S_last_new, T_last_new, BI, [("check_some", c_check_some), ("news", c_news)], []⟩
theorem J_last_new (c_check_some c_news : Fn) : JSs (Γ_last_new c_check_some c_news) (defBody x_last_new) (B_last_new c_check_some c_news) := (jss_cons (jst_ex (k_call ⟨g_last_new_check_some, rfl, rfl⟩ (jg_v (k_mv v_last_new_plan) jg_nil) (fun _ => rfl) (fun _ => rfl)) (fun _ => rfl)) (jss_cons (k_set s_last_new_letter (je_ix (k_call ⟨g_last_new_news, rfl, rfl⟩ (jg_v (k_mv v_last_new_plan) jg_nil) (fun _ => rfl) (fun _ => rfl)) (je_neg je_int) (fun _ _ => rfl)) (fun _ => rfl)) (jss_cons (jst_ret (je_tup (ja_cons (je_sl (k_mv v_last_new_plan) jp_no (jp_of (je_m1 m_find PySem.F.slot_str_find PySem.F.type_str_find (k_mv v_last_new_plan) (k_l v_last_new_letter) (fun _ => rfl) rfl))) (ja_cons (k_mv v_last_new_letter) ja_nil)))) jss_nil)))
/-! first_gone -/
abbrev x_first_gone : Stmt := topS 10
abbrev S_first_gone : Scope := defScope x_first_gone
def N_first_gone : List Str := ["plan", "letter"]
def T_first_gone : List Str := ["plan", "letter"]
theorem sc_first_gone : FnScope N_first_gone ["plan"] S_first_gone := ⟨rfl, rfl, rfl, by decide +kernel, rfl, by decide +kernel, by decide +kernel⟩
theorem v_first_gone_plan : Nm N_first_gone S_first_gone 0 "plan" := nm_by (by decide +kernel)
theorem g_first_gone_check_some : glS S_first_gone "check_some" = true := by decide +kernel
theorem g_first_gone_gones : glS S_first_gone "gones" = true := by decide +kernel
theorem s_first_gone_letter : Ns N_first_gone S_first_gone T_first_gone 1 "letter" := ns_by (by decide +kernel)
theorem v_first_gone_letter : Nm N_first_gone S_first_gone 1 "letter" := nm_by (by decide +kernel)
abbrev Γ_first_gone (c_check_some c_gones : Fn) : Gm := ⟨N_first_gone, S_first_gone, T_first_gone, BI, [("check_some", c_check_some), ("gones", c_gones)], []⟩
theorem J_first_gone (c_check_some c_gones : Fn) : JSs (Γ_first_gone c_check_some c_gones) (defBody x_first_gone) (B_first_gone c_check_some c_gones) := (jss_cons (jst_ex (k_call ⟨g_first_gone_check_some, rfl, rfl⟩ (jg_v (k_mv v_first_gone_plan) jg_nil) (fun _ => rfl) (fun _ => rfl)) (fun _ => rfl)) (jss_cons (k_set s_first_gone_letter (je_ix (k_call ⟨g_first_gone_gones, rfl, rfl⟩ (jg_v (k_mv v_first_gone_plan) jg_nil) (fun _ => rfl) (fun _ => rfl)) je_int (fun _ _ => rfl)) (fun _ => rfl)) (jss_cons (jst_ret (je_tup (ja_cons (k_mv v_first_gone_letter) (ja_cons (je_sl (k_mv v_first_gone_plan) (jp_of (je_op p_add (je_m1 m_rfind PySem.F.slot_str_rfind PySem.F.type_str_rfind (k_mv v_first_gone_plan) (k_l v_first_gone_letter) (fun _ => rfl) rfl) je_int)) jp_no) ja_nil)))) jss_nil)))
/-! check_names -/
abbrev x_check_names : Stmt := topS 11
abbrev S_check_names : Scope := defScope x_check_names
def N_check_names : List Str := ["plan", "before", "after", "letter"]
def T_check_names : List Str := ["plan", "before", "after", "letter"]
theorem sc_check_names : FnScope N_check_names ["plan", "before", "after"] S_check_names := ⟨rfl, rfl, rfl, by decide +kernel, rfl, by decide +kernel, by decide +kernel⟩
theorem v_check_names_before : Nm N_check_names S_check_names 1 "before" := nm_by (by decide +kernel)
theorem g_check_names_len : glS S_check_names "len" = true := by decide +kernel
theorem v_check_names_after : Nm N_check_names S_check_names 2 "after" := nm_by (by decide +kernel)
theorem g_check_names_set : glS S_check_names "set" = true := by decide +kernel
theorem v_check_names_plan : Nm N_check_names S_check_names 0 "plan" := nm_by (by decide +kernel)
theorem s_check_names_letter : Ns N_check_names S_check_names T_check_names 3 "letter" := ns_by (by decide +kernel)
theorem v_check_names_letter : Nm N_check_names S_check_names 3 "letter" := nm_by (by decide +kernel)
abbrev Γ_check_names : Gm := ⟨N_check_names, S_check_names, T_check_names, BI, [], []⟩
theorem J_check_names : JSs (Γ_check_names) (defBody x_check_names) (B_check_names) := (jss_cons (jst_if (JW.jt (jw_or (jt_cmp p_ne (k_b1 ⟨g_check_names_len, t_len⟩ b_len (k_l v_check_names_before) rfl) (k_b1 ⟨g_check_names_len, t_len⟩ b_len (k_l v_check_names_after) rfl) rfl) (jw_or (jt_cmp p_ne (k_ls ⟨g_check_names_len, t_len⟩ ⟨g_check_names_set, t_set⟩ (k_mv v_check_names_before)) (k_b1 ⟨g_check_names_len, t_len⟩ b_len (k_l v_check_names_before) rfl) rfl) (jw_or1 (jt_cmp p_ne (k_ls ⟨g_check_names_len, t_len⟩ ⟨g_check_names_set, t_set⟩ (k_mv v_check_names_after)) (k_b1 ⟨g_check_names_len, t_len⟩ b_len (k_l v_check_names_after) rfl) rfl))))) (jss_cons jst_no jss_nil) jss_nil) (jss_cons (jst_for (ji_val (k_mv v_check_names_plan)) (k_name s_check_names_letter) (jss_cons (jst_if (jt_opS p_ni (k_mv v_check_names_letter) (k_l v_check_names_before) rfl) (jss_cons jst_no jss_nil) jss_nil) jss_nil) (fun _ _ => rfl)) jss_nil))
/-! renamed -/
abbrev x_renamed : Stmt := topS 12
abbrev S_renamed : Scope := defScope x_renamed
def N_renamed : List Str := ["plan", "before", "after", "letter"]
def T_renamed : List Str := ["plan", "before", "after"]
theorem sc_renamed : FnScope N_renamed ["plan", "before", "after"] S_renamed := ⟨rfl, rfl, rfl, by decide +kernel, rfl, by decide +kernel, by decide +kernel⟩
theorem v_renamed_after : Nm N_renamed S_renamed 2 "after" := nm_by (by decide +kernel)
theorem v_renamed_before : Nm N_renamed S_renamed 1 "before" := nm_by (by decide +kernel)
theorem v_renamed_plan : Nm N_renamed S_renamed 0 "plan" := nm_by (by decide +kernel)
theorem g_renamed_check_names : glS S_renamed "check_names" = true := by decide +kernel
abbrev Γ_renamed (c_check_names : Fn) : Gm := ⟨N_renamed, S_renamed, T_renamed, BI, [("check_names", c_check_names)], []⟩
theorem J_renamed (c_check_names : Fn) : JSs (Γ_renamed c_check_names) (defBody x_renamed) (B_renamed c_check_names) := (jss_cons (jst_ex (k_call ⟨g_renamed_check_names, rfl, rfl⟩ (jg_v (k_mv v_renamed_plan) (jg_v (k_mv v_renamed_before) (jg_v (k_mv v_renamed_after) jg_nil))) (fun _ => rfl) (fun _ => rfl)) (fun _ => rfl)) (jss_cons (jst_ret (je_m1 m_join PySem.F.slot_str_join PySem.F.type_str_join (je_str (l := []) (by decide +kernel) (by decide)) (js_o (k_lc ["letter"] [3] (lk_by (N := N_renamed) (sc := S_renamed) (own := [("letter", 3)]) (ts := [3]) (by decide +kernel)) rfl rfl (ji_val (k_mv v_renamed_plan)) (k_name (ns_by (N := N_renamed) (sc := (relS _ S_renamed)) (st := ["letter"]) (by decide +kernel))) jts_nil (k_ixN (nm_by (N := N_renamed) (sc := (relS _ S_renamed)) (by decide +kernel)) (je_m1 m_find PySem.F.slot_str_find PySem.F.type_str_find (k_mv (nm_by (N := N_renamed) (sc := (relS _ S_renamed)) (by decide +kernel))) (k_l (nm_by (N := N_renamed) (sc := (relS _ S_renamed)) (by decide +kernel))) (fun _ => rfl) rfl) (fun _ _ => rfl)) (fun _ _ => rfl))) (fun _ => rfl) rfl)) jss_nil))
/-! form_by -/
abbrev x_form_by : Stmt := topS 14
abbrev S_form_by : Scope := defScope x_form_by
def N_form_by : List Str := ["plan", "known", "ahead", "came", "went", "behind"]
def T_form_by : List Str := ["plan", "known", "ahead", "came", "went", "behind"]
theorem sc_form_by : FnScope N_form_by ["plan", "known"] S_form_by := ⟨rfl, rfl, rfl, by decide +kernel, rfl, by decide +kernel, by decide +kernel⟩
theorem v_form_by_plan : Nm N_form_by S_form_by 0 "plan" := nm_by (by decide +kernel)
theorem v_form_by_known : Nm N_form_by S_form_by 1 "known" := nm_by (by decide +kernel)
theorem v_form_by_behind : Nm N_form_by S_form_by 5 "behind" := nm_by (by decide +kernel)
theorem g_form_by_form_by : glS S_form_by "form_by" = true := by decide +kernel
theorem v_form_by_went : Nm N_form_by S_form_by 4 "went" := nm_by (by decide +kernel)
theorem v_form_by_came : Nm N_form_by S_form_by 3 "came" := nm_by (by decide +kernel)
theorem v_form_by_ahead : Nm N_form_by S_form_by 2 "ahead" := nm_by (by decide +kernel)
theorem s_form_by_behind : Ns N_form_by S_form_by T_form_by 5 "behind" := ns_by (by decide +kernel)
theorem s_form_by_went : Ns N_form_by S_form_by T_form_by 4 "went" := ns_by (by decide +kernel)
theorem g_form_by_first_gone : glS S_form_by "first_gone" = true := by decide +kernel
theorem s_form_by_came : Ns N_form_by S_form_by T_form_by 3 "came" := ns_by (by decide +kernel)
theorem s_form_by_ahead : Ns N_form_by S_form_by T_form_by 2 "ahead" := ns_by (by decide +kernel)
theorem g_form_by_last_new : glS S_form_by "last_new" = true := by decide +kernel
abbrev Γ_form_by (c_form_by c_first_gone c_last_new : Fn) : Gm := ⟨N_form_by, S_form_by, T_form_by, BI, [("form_by", c_form_by), ("first_gone", c_first_gone), ("last_new", c_last_new)], []⟩
theorem J_form_by (c_form_by c_first_gone c_last_new : Fn) : JSs (Γ_form_by c_form_by c_first_gone c_last_new) (defBody x_form_by) (B_form_by c_form_by c_first_gone c_last_new) := (jss_cons (jst_if (jt_cmp p_eq (k_mv v_form_by_plan) (je_str (l := []) (by decide +kernel) (by decide)) rfl) (jss_cons (jst_ret (je_tup ja_nil)) jss_nil) jss_nil) (jss_cons (jst_if (jt_opS p_ni (k_mv v_form_by_plan) (k_l v_form_by_known) rfl) (jss_cons (k_as (k_call ⟨g_form_by_last_new, rfl, rfl⟩ (jg_v (k_mv v_form_by_plan) jg_nil) (fun _ => rfl) (fun _ => rfl)) (jg_tup (jgs_cons (k_name s_form_by_ahead) (jgs_cons (k_name s_form_by_came) jgs_nil (fun _ => rfl)) (fun _ => rfl)) (fun _ => rfl) (fun _ => rfl)) (fun _ => rfl) rfl (fun _ => rfl)) (jss_cons (k_as (k_call ⟨g_form_by_first_gone, rfl, rfl⟩ (jg_v (k_mv v_form_by_plan) jg_nil) (fun _ => rfl) (fun _ => rfl)) (jg_tup (jgs_cons (k_name s_form_by_went) (jgs_cons (k_name s_form_by_behind) jgs_nil (fun _ => rfl)) (fun _ => rfl)) (fun _ => rfl) (fun _ => rfl)) (fun _ => rfl) rfl (fun _ => rfl)) (jss_cons (k_put v_form_by_known (k_mv v_form_by_plan) (je_tup (ja_cons (k_call ⟨g_form_by_form_by, rfl, rfl⟩ (jg_v (k_mv v_form_by_ahead) (k_gs v_form_by_known jg_nil)) (fun _ => rfl) (fun _ => rfl)) (ja_cons (k_mv v_form_by_came) (ja_cons (k_mv v_form_by_went) (ja_cons (k_call ⟨g_form_by_form_by, rfl, rfl⟩ (jg_v (k_mv v_form_by_behind) (k_gs v_form_by_known jg_nil)) (fun _ => rfl) (fun _ => rfl)) ja_nil))))) (fun _ _ => rfl) (fun _ => rfl) (fun _ => rfl) (fun _ => rfl)) jss_nil))) jss_nil) (jss_cons (jst_ret (k_ixN v_form_by_known (k_mv v_form_by_plan) (fun _ _ => rfl))) jss_nil)))
/-! form_of -/
abbrev x_form_of : Stmt := topS 15
abbrev S_form_of : Scope := defScope x_form_of
def N_form_of : List Str := ["plan"]
def T_form_of : List Str := ["plan"]
theorem sc_form_of : FnScope N_form_of ["plan"] S_form_of := ⟨rfl, rfl, rfl, by decide +kernel, rfl, by decide +kernel, by decide +kernel⟩
theorem v_form_of_plan : Nm N_form_of S_form_of 0 "plan" := nm_by (by decide +kernel)
theorem g_form_of_form_by : glS S_form_of "form_by" = true := by decide +kernel
abbrev Γ_form_of (c_form_by : Fn) : Gm := ⟨N_form_of, S_form_of, T_form_of, BI, [("form_by", c_form_by)], []⟩
theorem J_form_of (c_form_by : Fn) : JSs (Γ_form_of c_form_by) (defBody x_form_of) (B_form_of c_form_by) := (jss_cons (jst_ret (k_call ⟨g_form_of_form_by, rfl, rfl⟩ (jg_v (k_mv v_form_of_plan) (jg_o jo_dic jg_nil)) (fun _ => rfl) (fun _ => rfl))) jss_nil)
/-! plan_by -/
abbrev x_plan_by : Stmt := topS 16
abbrev S_plan_by : Scope := defScope x_plan_by
def N_plan_by : List Str := ["form", "ahead", "behind"]
def T_plan_by : List Str := ["form", "ahead", "behind"]
theorem sc_plan_by : FnScope N_plan_by ["form"] S_plan_by := ⟨rfl, rfl, rfl, by decide +kernel, rfl, by decide +kernel, by decide +kernel⟩
theorem v_plan_by_form : Nm N_plan_by S_plan_by 0 "form" := nm_by (by decide +kernel)
theorem g_plan_by_len : glS S_plan_by "len" = true := by decide +kernel
theorem g_plan_by_plan_by : glS S_plan_by "plan_by" = true := by decide +kernel
theorem s_plan_by_ahead : Ns N_plan_by S_plan_by T_plan_by 1 "ahead" := ns_by (by decide +kernel)
theorem s_plan_by_behind : Ns N_plan_by S_plan_by T_plan_by 2 "behind" := ns_by (by decide +kernel)
theorem l_plan_by_ahead : S_plan_by.names.lookup ("ahead" : Str) = some .local := by decide +kernel
theorem l_plan_by_behind : S_plan_by.names.lookup ("behind" : Str) = some .local := by decide +kernel
theorem v_plan_by_ahead : Nm N_plan_by S_plan_by 1 "ahead" := nm_by (by decide +kernel)
theorem v_plan_by_behind : Nm N_plan_by S_plan_by 2 "behind" := nm_by (by decide +kernel)
abbrev Γ_plan_by (c_plan_by : Fn) : Gm := ⟨N_plan_by, S_plan_by, T_plan_by, BI, [("plan_by", c_plan_by)], []⟩
theorem J_plan_by (c_plan_by : Fn) : JSs (Γ_plan_by c_plan_by) (defBody x_plan_by) (B_plan_by c_plan_by) := (jss_cons (jst_if (jt_cmp p_eq (k_b1 ⟨g_plan_by_len, t_len⟩ b_len (k_l v_plan_by_form) rfl) je_int rfl) (jss_cons (jst_ret (je_str (l := []) (by decide +kernel) (by decide))) jss_nil) jss_nil) (jss_cons (k_par s_plan_by_ahead s_plan_by_behind (jg_v (k_call ⟨g_plan_by_plan_by, rfl, rfl⟩ (jg_v (k_ixN v_plan_by_form je_int (fun _ _ => rfl)) jg_nil) (fun _ => rfl) (fun _ => rfl)) (jg_v (k_call ⟨g_plan_by_plan_by, rfl, rfl⟩ (jg_v (k_ixN v_plan_by_form je_int (fun _ _ => rfl)) jg_nil) (fun _ => rfl) (fun _ => rfl)) jg_nil)) (by decide) l_plan_by_ahead l_plan_by_behind rfl (fun _ => rfl)) (jss_cons (jst_ret (je_if (jt_cmp p_ne (k_mv v_plan_by_ahead) (je_str (l := []) (by decide +kernel) (by decide)) rfl) (je_op p_add (je_op p_add (je_op p_add (k_mv v_plan_by_ahead) (k_ixN v_plan_by_form je_int (fun _ _ => rfl))) (k_ixN v_plan_by_form je_int (fun _ _ => rfl))) (k_mv v_plan_by_behind)) (k_ixN v_plan_by_form je_int (fun _ _ => rfl)))) jss_nil)))
/-! plan_of -/
abbrev x_plan_of : Stmt := topS 17
abbrev S_plan_of : Scope := defScope x_plan_of
def N_plan_of : List Str := ["form"]
def T_plan_of : List Str := ["form"]
theorem sc_plan_of : FnScope N_plan_of ["form"] S_plan_of := ⟨rfl, rfl, rfl, by decide +kernel, rfl, by decide +kernel, by decide +kernel⟩
theorem v_plan_of_form : Nm N_plan_of S_plan_of 0 "form" := nm_by (by decide +kernel)
theorem g_plan_of_plan_by : glS S_plan_of "plan_by" = true := by decide +kernel
abbrev Γ_plan_of (c_plan_by : Fn) : Gm := ⟨N_plan_of, S_plan_of, T_plan_of, BI, [("plan_by", c_plan_by)], []⟩
theorem J_plan_of (c_plan_by : Fn) : JSs (Γ_plan_of c_plan_by) (defBody x_plan_of) (B_plan_of c_plan_by) := (jss_cons (jst_ret (k_call ⟨g_plan_of_plan_by, rfl, rfl⟩ (jg_v (k_mv v_plan_of_form) jg_nil) (fun _ => rfl) (fun _ => rfl))) jss_nil)
/-! product -/
abbrev x_product : Stmt := topS 18
abbrev S_product : Scope := defScope x_product
def N_product : List Str := ["one", "other"]
def T_product : List Str := ["one", "other"]
theorem sc_product : FnScope N_product ["one", "other"] S_product := ⟨rfl, rfl, rfl, by decide +kernel, rfl, by decide +kernel, by decide +kernel⟩
theorem v_product_one : Nm N_product S_product 0 "one" := nm_by (by decide +kernel)
theorem g_product_plan_of : glS S_product "plan_of" = true := by decide +kernel
theorem v_product_other : Nm N_product S_product 1 "other" := nm_by (by decide +kernel)
theorem g_product_form_of : glS S_product "form_of" = true := by decide +kernel
abbrev Γ_product (c_plan_of c_form_of : Fn) : Gm := ⟨N_product, S_product, T_product, BI, [("plan_of", c_plan_of), ("form_of", c_form_of)], []⟩
theorem J_product (c_plan_of c_form_of : Fn) : JSs (Γ_product c_plan_of c_form_of) (defBody x_product) (B_product c_plan_of c_form_of) := (jss_cons (jst_ret (k_call ⟨g_product_form_of, rfl, rfl⟩ (jg_v (je_op p_add (k_call ⟨g_product_plan_of, rfl, rfl⟩ (jg_v (k_mv v_product_one) jg_nil) (fun _ => rfl) (fun _ => rfl)) (k_call ⟨g_product_plan_of, rfl, rfl⟩ (jg_v (k_mv v_product_other) jg_nil) (fun _ => rfl) (fun _ => rfl))) jg_nil) (fun _ => rfl) (fun _ => rfl))) jss_nil)
/-! form_back -/
abbrev x_form_back : Stmt := topS 19
abbrev S_form_back : Scope := defScope x_form_back
def N_form_back : List Str := ["form"]
def T_form_back : List Str := ["form"]
theorem sc_form_back : FnScope N_form_back ["form"] S_form_back := ⟨rfl, rfl, rfl, by decide +kernel, rfl, by decide +kernel, by decide +kernel⟩
theorem v_form_back_form : Nm N_form_back S_form_back 0 "form" := nm_by (by decide +kernel)
theorem g_form_back_plan_of : glS S_form_back "plan_of" = true := by decide +kernel
theorem g_form_back_form_of : glS S_form_back "form_of" = true := by decide +kernel
abbrev Γ_form_back (c_plan_of c_form_of : Fn) : Gm := ⟨N_form_back, S_form_back, T_form_back, BI, [("plan_of", c_plan_of), ("form_of", c_form_of)], []⟩
theorem J_form_back (c_plan_of c_form_of : Fn) : JSs (Γ_form_back c_plan_of c_form_of) (defBody x_form_back) (B_form_back c_plan_of c_form_of) := (jss_cons (jst_ret (k_call ⟨g_form_back_form_of, rfl, rfl⟩ (jg_v (je_rev (k_call ⟨g_form_back_plan_of, rfl, rfl⟩ (jg_v (k_mv v_form_back_form) jg_nil) (fun _ => rfl) (fun _ => rfl))) jg_nil) (fun _ => rfl) (fun _ => rfl))) jss_nil)
/-! form_renamed -/
abbrev x_form_renamed : Stmt := topS 20
abbrev S_form_renamed : Scope := defScope x_form_renamed
def N_form_renamed : List Str := ["form", "before", "after"]
def T_form_renamed : List Str := ["form", "before", "after"]
theorem sc_form_renamed : FnScope N_form_renamed ["form", "before", "after"] S_form_renamed := ⟨rfl, rfl, rfl, by decide +kernel, rfl, by decide +kernel, by decide +kernel⟩
theorem v_form_renamed_after : Nm N_form_renamed S_form_renamed 2 "after" := nm_by (by decide +kernel)
theorem v_form_renamed_before : Nm N_form_renamed S_form_renamed 1 "before" := nm_by (by decide +kernel)
theorem v_form_renamed_form : Nm N_form_renamed S_form_renamed 0 "form" := nm_by (by decide +kernel)
theorem g_form_renamed_plan_of : glS S_form_renamed "plan_of" = true := by decide +kernel
theorem g_form_renamed_renamed : glS S_form_renamed "renamed" = true := by decide +kernel
theorem g_form_renamed_form_of : glS S_form_renamed "form_of" = true := by decide +kernel
abbrev Γ_form_renamed (c_plan_of c_renamed c_form_of : Fn) : Gm := ⟨N_form_renamed, S_form_renamed, T_form_renamed, BI, [("plan_of", c_plan_of), ("renamed", c_renamed), ("form_of", c_form_of)], []⟩
theorem J_form_renamed (c_plan_of c_renamed c_form_of : Fn) : JSs (Γ_form_renamed c_plan_of c_renamed c_form_of) (defBody x_form_renamed) (B_form_renamed c_plan_of c_renamed c_form_of) := (jss_cons (jst_ret (k_call ⟨g_form_renamed_form_of, rfl, rfl⟩ (jg_v (k_call ⟨g_form_renamed_renamed, rfl, rfl⟩ (jg_v (k_call ⟨g_form_renamed_plan_of, rfl, rfl⟩ (jg_v (k_mv v_form_renamed_form) jg_nil) (fun _ => rfl) (fun _ => rfl)) (jg_v (k_mv v_form_renamed_before) (jg_v (k_mv v_form_renamed_after) jg_nil))) (fun _ => rfl) (fun _ => rfl)) jg_nil) (fun _ => rfl) (fun _ => rfl))) jss_nil)
/-! check_piece -/
abbrev x_check_piece : Stmt := topS 22
abbrev S_check_piece : Scope := defScope x_check_piece
def N_check_piece : List Str := ["book", "piece"]
def T_check_piece : List Str := ["book", "piece"]
theorem sc_check_piece : FnScope N_check_piece ["book", "piece"] S_check_piece := ⟨rfl, rfl, rfl, by decide +kernel, rfl, by decide +kernel, by decide +kernel⟩
theorem v_check_piece_piece : Nm N_check_piece S_check_piece 1 "piece" := nm_by (by decide +kernel)
theorem v_check_piece_book : Nm N_check_piece S_check_piece 0 "book" := nm_by (by decide +kernel)
theorem g_check_piece_len : glS S_check_piece "len" = true := by decide +kernel
abbrev Γ_check_piece : Gm := ⟨N_check_piece, S_check_piece, T_check_piece, BI, [], []⟩
theorem J_check_piece : JSs (Γ_check_piece) (defBody x_check_piece) (B_check_piece) := (jss_cons (jst_if (jt_not (jt_chain p_le p_lt je_int (k_mv v_check_piece_piece) (k_b1 ⟨g_check_piece_len, t_len⟩ b_len (k_l v_check_piece_book) rfl) rfl)) (jss_cons jst_no jss_nil) jss_nil) jss_nil)
/-! longs_of -/
abbrev x_longs_of : Stmt := topS 23
abbrev S_longs_of : Scope := defScope x_longs_of
def N_longs_of : List Str := ["book", "found", "piece", "part"]
def T_longs_of : List Str := ["book", "found", "piece"]
theorem sc_longs_of : FnScope N_longs_of ["book"] S_longs_of := ⟨rfl, rfl, rfl, by decide +kernel, rfl, by decide +kernel, by decide +kernel⟩
theorem s_longs_of_found : Ns N_longs_of S_longs_of T_longs_of 1 "found" := ns_by (by decide +kernel)
theorem v_longs_of_book : Nm N_longs_of S_longs_of 0 "book" := nm_by (by decide +kernel)
theorem s_longs_of_piece : Ns N_longs_of S_longs_of T_longs_of 2 "piece" := ns_by (by decide +kernel)
theorem v_longs_of_found : Nm N_longs_of S_longs_of 1 "found" := nm_by (by decide +kernel)
theorem v_longs_of_piece : Nm N_longs_of S_longs_of 2 "piece" := nm_by (by decide +kernel)
theorem g_longs_of_sum : glS S_longs_of "sum" = true := by decide +kernel
abbrev Γ_longs_of : Gm := ⟨N_longs_of, S_longs_of, T_longs_of, BI, [], []⟩
theorem J_longs_of : JSs (Γ_longs_of) (defBody x_longs_of) (B_longs_of) := (jss_cons (k_own s_longs_of_found (jo_lst ja_nil) rfl) (jss_cons (jst_for (ji_val (k_mv v_longs_of_book)) (k_name s_longs_of_piece) (jss_cons (jst_ex (k_app v_longs_of_found (k_b1 ⟨g_longs_of_sum, t_sum⟩ b_sum (js_o (k_lc ["part"] [3] (lk_by (N := N_longs_of) (sc := S_longs_of) (own := [("part", 3)]) (ts := [3]) (by decide +kernel)) rfl rfl (ji_val (k_mv v_longs_of_piece)) (k_name (ns_by (N := N_longs_of) (sc := (relS _ S_longs_of)) (st := ["part"]) (by decide +kernel))) jts_nil (je_if (jt_val (k_isi ⟨(by decide +kernel : glS (relS _ S_longs_of) "isinstance" = true), t_isinstance⟩ (k_mv (nm_by (N := N_longs_of) (sc := (relS _ S_longs_of)) (by decide +kernel))) ⟨(by decide +kernel : glS (relS _ S_longs_of) "str" = true), t_str⟩ (by decide)) (fun _ _ => rfl)) (k_b1 ⟨(by decide +kernel : glS (relS _ S_longs_of) "len" = true), t_len⟩ b_len (k_l (nm_by (N := N_longs_of) (sc := (relS _ S_longs_of)) (by decide +kernel))) rfl) (k_ixN (nm_by (N := N_longs_of) (sc := (relS _ S_longs_of)) (by decide +kernel)) (k_mv (nm_by (N := N_longs_of) (sc := (relS _ S_longs_of)) (by decide +kernel))) (fun _ _ => rfl))) (fun _ _ => rfl))) rfl) (fun _ => rfl) (fun _ => rfl) rfl) (fun _ => rfl)) jss_nil) (fun _ _ => rfl)) (jss_cons (k_retL v_longs_of_found) jss_nil)))
/-! long_of -/
abbrev x_long_of : Stmt := topS 24
abbrev S_long_of : Scope := defScope x_long_of
def N_long_of : List Str := ["book", "piece"]
def T_long_of : List Str := ["book", "piece"]
theorem sc_long_of : FnScope N_long_of ["book", "piece"] S_long_of := ⟨rfl, rfl, rfl, by decide +kernel, rfl, by decide +kernel, by decide +kernel⟩
theorem v_long_of_piece : Nm N_long_of S_long_of 1 "piece" := nm_by (by decide +kernel)
theorem v_long_of_book : Nm N_long_of S_long_of 0 "book" := nm_by (by decide +kernel)
theorem g_long_of_check_piece : glS S_long_of "check_piece" = true := by decide +kernel
theorem g_long_of_longs_of : glS S_long_of "longs_of" = true := by decide +kernel
abbrev Γ_long_of (c_check_piece c_longs_of : Fn) : Gm := ⟨N_long_of, S_long_of, T_long_of, BI, [("check_piece", c_check_piece), ("longs_of", c_longs_of)], []⟩
theorem J_long_of (c_check_piece c_longs_of : Fn) : JSs (Γ_long_of c_check_piece c_longs_of) (defBody x_long_of) (B_long_of c_check_piece c_longs_of) := (jss_cons (jst_ex (k_call ⟨g_long_of_check_piece, rfl, rfl⟩ (jg_v (k_mv v_long_of_book) (jg_v (k_mv v_long_of_piece) jg_nil)) (fun _ => rfl) (fun _ => rfl)) (fun _ => rfl)) (jss_cons (jst_ret (je_ix (je_fz (k_callO ⟨g_long_of_longs_of, rfl, rfl⟩ (jg_v (k_mv v_long_of_book) jg_nil) (fun _ => rfl) (fun _ => rfl))) (k_mv v_long_of_piece) (fun _ _ => rfl))) jss_nil))
/-! how_often -/
abbrev x_how_often : Stmt := topS 25
abbrev S_how_often : Scope := defScope x_how_often
def N_how_often : List Str := ["book", "piece", "letter", "found", "parts", "part"]
def T_how_often : List Str := ["book", "piece", "letter", "found", "parts"]
theorem sc_how_often : FnScope N_how_often ["book", "piece", "letter"] S_how_often := ⟨rfl, rfl, rfl, by decide +kernel, rfl, by decide +kernel, by decide +kernel⟩
theorem v_how_often_piece : Nm N_how_often S_how_often 1 "piece" := nm_by (by decide +kernel)
theorem v_how_often_book : Nm N_how_often S_how_often 0 "book" := nm_by (by decide +kernel)
theorem g_how_often_check_piece : glS S_how_often "check_piece" = true := by decide +kernel
theorem s_how_often_found : Ns N_how_often S_how_often T_how_often 3 "found" := ns_by (by decide +kernel)
theorem s_how_often_parts : Ns N_how_often S_how_often T_how_often 4 "parts" := ns_by (by decide +kernel)
theorem v_how_often_found : Nm N_how_often S_how_often 3 "found" := nm_by (by decide +kernel)
theorem v_how_often_parts : Nm N_how_often S_how_often 4 "parts" := nm_by (by decide +kernel)
theorem g_how_often_sum : glS S_how_often "sum" = true := by decide +kernel
abbrev Γ_how_often (c_check_piece : Fn) : Gm := ⟨N_how_often, S_how_often, T_how_often, BI, [("check_piece", c_check_piece)], []⟩
theorem J_how_often_0 (c_check_piece : Fn) : JSt (Γ_how_often c_check_piece) ((defBody x_how_often).getD 0 (.Pass ⟨0, 0, 0, 0⟩)) (B_how_often_0 c_check_piece) := (jst_ex (k_call ⟨g_how_often_check_piece, rfl, rfl⟩ (jg_v (k_mv v_how_often_book) (jg_v (k_mv v_how_often_piece) jg_nil)) (fun _ => rfl) (fun _ => rfl)) (fun _ => rfl))
theorem J_how_often_1 (c_check_piece : Fn) : JSt (Γ_how_often c_check_piece) ((defBody x_how_often).getD 1 (.Pass ⟨0, 0, 0, 0⟩)) (B_how_often_1 c_check_piece) := (k_own s_how_often_found (jo_lst ja_nil) rfl)
theorem J_how_often_2 (c_check_piece : Fn) : JSt (Γ_how_often c_check_piece) ((defBody x_how_often).getD 2 (.Pass ⟨0, 0, 0, 0⟩)) (B_how_often_2 c_check_piece) := (jst_for (ji_val (k_mv v_how_often_book)) (k_name s_how_often_parts) (jss_cons (jst_ex (k_app v_how_often_found (k_b1 ⟨g_how_often_sum, t_sum⟩ b_sum (js_o (k_lc ["part"] [5] (lk_by (N := N_how_often) (sc := S_how_often) (own := [("part", 5)]) (ts := [5]) (by decide +kernel)) rfl rfl (ji_val (k_mv v_how_often_parts)) (k_name (ns_by (N := N_how_often) (sc := (relS _ S_how_often)) (st := ["part"]) (by decide +kernel))) jts_nil (je_if (jt_val (k_isi ⟨(by decide +kernel : glS (relS _ S_how_often) "isinstance" = true), t_isinstance⟩ (k_mv (nm_by (N := N_how_often) (sc := (relS _ S_how_often)) (by decide +kernel))) ⟨(by decide +kernel : glS (relS _ S_how_often) "str" = true), t_str⟩ (by decide)) (fun _ _ => rfl)) (je_m1 m_count PySem.F.slot_str_count PySem.F.type_str_count (k_mv (nm_by (N := N_how_often) (sc := (relS _ S_how_often)) (by decide +kernel))) (k_l (nm_by (N := N_how_often) (sc := (relS _ S_how_often)) (by decide +kernel))) (fun _ => rfl) rfl) (k_ixN (nm_by (N := N_how_often) (sc := (relS _ S_how_often)) (by decide +kernel)) (k_mv (nm_by (N := N_how_often) (sc := (relS _ S_how_often)) (by decide +kernel))) (fun _ _ => rfl))) (fun _ _ => rfl))) rfl) (fun _ => rfl) (fun _ => rfl) rfl) (fun _ => rfl)) jss_nil) (fun _ _ => rfl))
theorem J_how_often_3 (c_check_piece : Fn) : JSt (Γ_how_often c_check_piece) ((defBody x_how_often).getD 3 (.Pass ⟨0, 0, 0, 0⟩)) (B_how_often_3 c_check_piece) := (jst_ret (k_ixN v_how_often_found (k_mv v_how_often_piece) (fun _ _ => rfl)))
theorem J_how_often (c_check_piece : Fn) : JSs (Γ_how_often c_check_piece) (defBody x_how_often) (B_how_often c_check_piece) := (jss_cons (J_how_often_0 c_check_piece) (jss_cons (J_how_often_1 c_check_piece) (jss_cons (J_how_often_2 c_check_piece) (jss_cons (J_how_often_3 c_check_piece) jss_nil))))
/-! forms_of -/
abbrev x_forms_of : Stmt := topS 26
abbrev S_forms_of : Scope := defScope x_forms_of
def N_forms_of : List Str := ["book", "found", "parts", "form", "part"]
def T_forms_of : List Str := ["book", "found", "parts", "form", "part"]
theorem sc_forms_of : FnScope N_forms_of ["book"] S_forms_of := ⟨rfl, rfl, rfl, by decide +kernel, rfl, by decide +kernel, by decide +kernel⟩
theorem s_forms_of_found : Ns N_forms_of S_forms_of T_forms_of 1 "found" := ns_by (by decide +kernel)
theorem v_forms_of_book : Nm N_forms_of S_forms_of 0 "book" := nm_by (by decide +kernel)
theorem s_forms_of_parts : Ns N_forms_of S_forms_of T_forms_of 2 "parts" := ns_by (by decide +kernel)
theorem v_forms_of_found : Nm N_forms_of S_forms_of 1 "found" := nm_by (by decide +kernel)
theorem v_forms_of_form : Nm N_forms_of S_forms_of 3 "form" := nm_by (by decide +kernel)
theorem v_forms_of_parts : Nm N_forms_of S_forms_of 2 "parts" := nm_by (by decide +kernel)
theorem s_forms_of_part : Ns N_forms_of S_forms_of T_forms_of 4 "part" := ns_by (by decide +kernel)
theorem v_forms_of_part : Nm N_forms_of S_forms_of 4 "part" := nm_by (by decide +kernel)
theorem g_forms_of_isinstance : glS S_forms_of "isinstance" = true := by decide +kernel
theorem g_forms_of_str : glS S_forms_of "str" = true := by decide +kernel
theorem g_forms_of_form_of : glS S_forms_of "form_of" = true := by decide +kernel
theorem g_forms_of_product : glS S_forms_of "product" = true := by decide +kernel
theorem s_forms_of_form : Ns N_forms_of S_forms_of T_forms_of 3 "form" := ns_by (by decide +kernel)
abbrev Γ_forms_of (c_form_of c_product : Fn) : Gm := ⟨N_forms_of, S_forms_of, T_forms_of, BI, [("form_of", c_form_of), ("product", c_product)], []⟩
theorem J_forms_of (c_form_of c_product : Fn) : JSs (Γ_forms_of c_form_of c_product) (defBody x_forms_of) (B_forms_of c_form_of c_product) := (jss_cons (k_own s_forms_of_found (jo_lst ja_nil) rfl) (jss_cons (jst_for (ji_val (k_mv v_forms_of_book)) (k_name s_forms_of_parts) (jss_cons (k_set s_forms_of_form (je_tup ja_nil) (fun _ => rfl)) (jss_cons (jst_for (ji_val (k_mv v_forms_of_parts)) (k_name s_forms_of_part) (jss_cons (k_set s_forms_of_form (k_call ⟨g_forms_of_product, rfl, rfl⟩ (jg_v (k_mv v_forms_of_form) (jg_v (je_if (jt_val (k_isi ⟨g_forms_of_isinstance, t_isinstance⟩ (k_mv v_forms_of_part) ⟨g_forms_of_str, t_str⟩ (by decide)) (fun _ _ => rfl)) (k_call ⟨g_forms_of_form_of, rfl, rfl⟩ (jg_v (k_mv v_forms_of_part) jg_nil) (fun _ => rfl) (fun _ => rfl)) (k_ixN v_forms_of_found (k_mv v_forms_of_part) (fun _ _ => rfl))) jg_nil)) (fun _ => rfl) (fun _ => rfl)) (fun _ => rfl)) jss_nil) (fun _ _ => rfl)) (jss_cons (jst_ex (k_app v_forms_of_found (k_mv v_forms_of_form) (fun _ => rfl) (fun _ => rfl) rfl) (fun _ => rfl)) jss_nil))) (fun _ _ => rfl)) (jss_cons (k_retL v_forms_of_found) jss_nil)))
/-! form_in -/
abbrev x_form_in : Stmt := topS 27
abbrev S_form_in : Scope := defScope x_form_in
def N_form_in : List Str := ["book", "piece"]
def T_form_in : List Str := ["book", "piece"]
theorem sc_form_in : FnScope N_form_in ["book", "piece"] S_form_in := ⟨rfl, rfl, rfl, by decide +kernel, rfl, by decide +kernel, by decide +kernel⟩
theorem v_form_in_piece : Nm N_form_in S_form_in 1 "piece" := nm_by (by decide +kernel)
theorem v_form_in_book : Nm N_form_in S_form_in 0 "book" := nm_by (by decide +kernel)
theorem g_form_in_check_piece : glS S_form_in "check_piece" = true := by decide +kernel
theorem g_form_in_forms_of : glS S_form_in "forms_of" = true := by decide +kernel
abbrev Γ_form_in (c_check_piece c_forms_of : Fn) : Gm := ⟨N_form_in, S_form_in, T_form_in, BI, [("check_piece", c_check_piece), ("forms_of", c_forms_of)], []⟩
theorem J_form_in (c_check_piece c_forms_of : Fn) : JSs (Γ_form_in c_check_piece c_forms_of) (defBody x_form_in) (B_form_in c_check_piece c_forms_of) := (jss_cons (jst_ex (k_call ⟨g_form_in_check_piece, rfl, rfl⟩ (jg_v (k_mv v_form_in_book) (jg_v (k_mv v_form_in_piece) jg_nil)) (fun _ => rfl) (fun _ => rfl)) (fun _ => rfl)) (jss_cons (jst_ret (je_ix (je_fz (k_callO ⟨g_form_in_forms_of, rfl, rfl⟩ (jg_v (je_sl (k_mv v_form_in_book) jp_no (jp_of (je_op p_add (k_mv v_form_in_piece) je_int))) jg_nil) (fun _ => rfl) (fun _ => rfl))) (k_mv v_form_in_piece) (fun _ _ => rfl))) jss_nil))
/-! alike_pieces -/
abbrev x_alike_pieces : Stmt := topS 28
abbrev S_alike_pieces : Scope := defScope x_alike_pieces
def N_alike_pieces : List Str := ["book", "one", "other"]
def T_alike_pieces : List Str := ["book", "one", "other"]
theorem sc_alike_pieces : FnScope N_alike_pieces ["book", "one", "other"] S_alike_pieces := ⟨rfl, rfl, rfl, by decide +kernel, rfl, by decide +kernel, by decide +kernel⟩
theorem v_alike_pieces_one : Nm N_alike_pieces S_alike_pieces 1 "one" := nm_by (by decide +kernel)
theorem v_alike_pieces_book : Nm N_alike_pieces S_alike_pieces 0 "book" := nm_by (by decide +kernel)
theorem g_alike_pieces_form_in : glS S_alike_pieces "form_in" = true := by decide +kernel
theorem v_alike_pieces_other : Nm N_alike_pieces S_alike_pieces 2 "other" := nm_by (by decide +kernel)
abbrev Γ_alike_pieces (c_form_in : Fn) : Gm := ⟨N_alike_pieces, S_alike_pieces, T_alike_pieces, BI, [("form_in", c_form_in)], []⟩
theorem J_alike_pieces (c_form_in : Fn) : JSs (Γ_alike_pieces c_form_in) (defBody x_alike_pieces) (B_alike_pieces c_form_in) := (jss_cons (jst_ret (je_cmp p_eq (k_call ⟨g_alike_pieces_form_in, rfl, rfl⟩ (jg_v (k_mv v_alike_pieces_book) (jg_v (k_mv v_alike_pieces_one) jg_nil)) (fun _ => rfl) (fun _ => rfl)) (k_call ⟨g_alike_pieces_form_in, rfl, rfl⟩ (jg_v (k_mv v_alike_pieces_book) (jg_v (k_mv v_alike_pieces_other) jg_nil)) (fun _ => rfl) (fun _ => rfl)) rfl)) jss_nil)
/-! cut_to -/
abbrev x_cut_to : Stmt := topS 29
abbrev S_cut_to : Scope := defScope x_cut_to
def N_cut_to : List Str := ["part", "longs", "begin", "first", "last", "many"]
def T_cut_to : List Str := ["part", "longs", "begin", "first", "last", "many"]
theorem sc_cut_to : FnScope N_cut_to ["part", "longs", "begin", "first", "last"] S_cut_to := ⟨rfl, rfl, rfl, by decide +kernel, rfl, by decide +kernel, by decide +kernel⟩
theorem v_cut_to_part : Nm N_cut_to S_cut_to 0 "part" := nm_by (by decide +kernel)
theorem g_cut_to_isinstance : glS S_cut_to "isinstance" = true := by decide +kernel
theorem g_cut_to_str : glS S_cut_to "str" = true := by decide +kernel
theorem g_cut_to_len : glS S_cut_to "len" = true := by decide +kernel
theorem v_cut_to_longs : Nm N_cut_to S_cut_to 1 "longs" := nm_by (by decide +kernel)
theorem s_cut_to_many : Ns N_cut_to S_cut_to T_cut_to 5 "many" := ns_by (by decide +kernel)
theorem v_cut_to_many : Nm N_cut_to S_cut_to 5 "many" := nm_by (by decide +kernel)
theorem v_cut_to_last : Nm N_cut_to S_cut_to 4 "last" := nm_by (by decide +kernel)
theorem v_cut_to_begin : Nm N_cut_to S_cut_to 2 "begin" := nm_by (by decide +kernel)
theorem g_cut_to_min : glS S_cut_to "min" = true := by decide +kernel
theorem v_cut_to_first : Nm N_cut_to S_cut_to 3 "first" := nm_by (by decide +kernel)
theorem g_cut_to_max : glS S_cut_to "max" = true := by decide +kernel
abbrev Γ_cut_to : Gm := ⟨N_cut_to, S_cut_to, T_cut_to, BI, [], []⟩
theorem J_cut_to : JSs (Γ_cut_to) (defBody x_cut_to) (B_cut_to) := (jss_cons (k_set s_cut_to_many (je_if (jt_val (k_isi ⟨g_cut_to_isinstance, t_isinstance⟩ (k_mv v_cut_to_part) ⟨g_cut_to_str, t_str⟩ (by decide)) (fun _ _ => rfl)) (k_b1 ⟨g_cut_to_len, t_len⟩ b_len (k_l v_cut_to_part) rfl) (k_ixN v_cut_to_longs (k_mv v_cut_to_part) (fun _ _ => rfl))) (fun _ => rfl)) (jss_cons (jst_ret (je_tup (ja_cons (k_b2 ⟨g_cut_to_max, t_max⟩ b_max2 je_int (je_op p_sub (k_mv v_cut_to_first) (k_mv v_cut_to_begin)) rfl) (ja_cons (k_b2 ⟨g_cut_to_min, t_min⟩ b_min2 (k_mv v_cut_to_many) (je_op p_sub (k_mv v_cut_to_last) (k_mv v_cut_to_begin)) rfl) (ja_cons (k_mv v_cut_to_many) ja_nil))))) jss_nil))
/-! stretch_in -/
abbrev x_stretch_in : Stmt := topS 30
abbrev S_stretch_in : Scope := defScope x_stretch_in
def N_stretch_in : List Str := ["book", "longs", "piece", "first", "last", "found", "begin", "part", "low", "high", "many"]
def T_stretch_in : List Str := ["book", "longs", "piece", "first", "last", "found", "begin", "part", "low", "high", "many"]
theorem sc_stretch_in : FnScope N_stretch_in ["book", "longs", "piece", "first", "last"] S_stretch_in := ⟨rfl, rfl, rfl, by decide +kernel, rfl, by decide +kernel, by decide +kernel⟩
theorem s_stretch_in_begin : Ns N_stretch_in S_stretch_in T_stretch_in 6 "begin" := ns_by (by decide +kernel)
theorem s_stretch_in_found : Ns N_stretch_in S_stretch_in T_stretch_in 5 "found" := ns_by (by decide +kernel)
theorem v_stretch_in_piece : Nm N_stretch_in S_stretch_in 2 "piece" := nm_by (by decide +kernel)
theorem v_stretch_in_book : Nm N_stretch_in S_stretch_in 0 "book" := nm_by (by decide +kernel)
theorem s_stretch_in_part : Ns N_stretch_in S_stretch_in T_stretch_in 7 "part" := ns_by (by decide +kernel)
theorem v_stretch_in_many : Nm N_stretch_in S_stretch_in 10 "many" := nm_by (by decide +kernel)
theorem v_stretch_in_low : Nm N_stretch_in S_stretch_in 8 "low" := nm_by (by decide +kernel)
theorem v_stretch_in_high : Nm N_stretch_in S_stretch_in 9 "high" := nm_by (by decide +kernel)
theorem v_stretch_in_part : Nm N_stretch_in S_stretch_in 7 "part" := nm_by (by decide +kernel)
theorem g_stretch_in_isinstance : glS S_stretch_in "isinstance" = true := by decide +kernel
theorem g_stretch_in_str : glS S_stretch_in "str" = true := by decide +kernel
theorem v_stretch_in_longs : Nm N_stretch_in S_stretch_in 1 "longs" := nm_by (by decide +kernel)
theorem g_stretch_in_stretch_in : glS S_stretch_in "stretch_in" = true := by decide +kernel
theorem s_stretch_in_many : Ns N_stretch_in S_stretch_in T_stretch_in 10 "many" := ns_by (by decide +kernel)
theorem s_stretch_in_high : Ns N_stretch_in S_stretch_in T_stretch_in 9 "high" := ns_by (by decide +kernel)
theorem s_stretch_in_low : Ns N_stretch_in S_stretch_in T_stretch_in 8 "low" := ns_by (by decide +kernel)
theorem v_stretch_in_last : Nm N_stretch_in S_stretch_in 4 "last" := nm_by (by decide +kernel)
theorem v_stretch_in_first : Nm N_stretch_in S_stretch_in 3 "first" := nm_by (by decide +kernel)
theorem v_stretch_in_begin : Nm N_stretch_in S_stretch_in 6 "begin" := nm_by (by decide +kernel)
theorem g_stretch_in_cut_to : glS S_stretch_in "cut_to" = true := by decide +kernel
theorem v_stretch_in_found : Nm N_stretch_in S_stretch_in 5 "found" := nm_by (by decide +kernel)
abbrev Γ_stretch_in (c_stretch_in c_cut_to : Fn) : Gm := ⟨N_stretch_in, S_stretch_in, T_stretch_in, BI, [("stretch_in", c_stretch_in), ("cut_to", c_cut_to)], []⟩
theorem J_stretch_in (c_stretch_in c_cut_to : Fn) : JSs (Γ_stretch_in c_stretch_in c_cut_to) (defBody x_stretch_in) (B_stretch_in c_stretch_in c_cut_to) := (jss_cons (k_as (je_tup (ja_cons (je_str (l := []) (by decide +kernel) (by decide)) (ja_cons je_int ja_nil))) (jg_tup (jgs_cons (k_name s_stretch_in_found) (jgs_cons (k_name s_stretch_in_begin) jgs_nil (fun _ => rfl)) (fun _ => rfl)) (fun _ => rfl) (fun _ => rfl)) (fun _ => rfl) rfl (fun _ => rfl)) (jss_cons (jst_for (ji_val (k_ixN v_stretch_in_book (k_mv v_stretch_in_piece) (fun _ _ => rfl))) (k_name s_stretch_in_part) (jss_cons (k_as (k_call ⟨g_stretch_in_cut_to, rfl, rfl⟩ (jg_v (k_mv v_stretch_in_part) (jg_v (k_mv v_stretch_in_longs) (jg_v (k_mv v_stretch_in_begin) (jg_v (k_mv v_stretch_in_first) (jg_v (k_mv v_stretch_in_last) jg_nil))))) (fun _ => rfl) (fun _ => rfl)) (jg_tup (jgs_cons (k_name s_stretch_in_low) (jgs_cons (k_name s_stretch_in_high) (jgs_cons (k_name s_stretch_in_many) jgs_nil (fun _ => rfl)) (fun _ => rfl)) (fun _ => rfl)) (fun _ => rfl) (fun _ => rfl)) (fun _ => rfl) rfl (fun _ => rfl)) (jss_cons (jst_if (jt_cmp p_lt (k_mv v_stretch_in_low) (k_mv v_stretch_in_high) rfl) (jss_cons (k_aug s_stretch_in_found i_add (je_if (jt_val (k_isi ⟨g_stretch_in_isinstance, t_isinstance⟩ (k_mv v_stretch_in_part) ⟨g_stretch_in_str, t_str⟩ (by decide)) (fun _ _ => rfl)) (je_sl (k_mv v_stretch_in_part) (jp_of (k_mv v_stretch_in_low)) (jp_of (k_mv v_stretch_in_high))) (k_call ⟨g_stretch_in_stretch_in, rfl, rfl⟩ (jg_v (k_mv v_stretch_in_book) (jg_v (k_mv v_stretch_in_longs) (jg_v (k_mv v_stretch_in_part) (jg_v (k_mv v_stretch_in_low) (jg_v (k_mv v_stretch_in_high) jg_nil))))) (fun _ => rfl) (fun _ => rfl)))) jss_nil) jss_nil) (jss_cons (k_aug s_stretch_in_begin i_add (k_mv v_stretch_in_many)) jss_nil))) (fun _ _ => rfl)) (jss_cons (jst_ret (k_mv v_stretch_in_found)) jss_nil)))
/-! stretch_of -/
abbrev x_stretch_of : Stmt := topS 31
abbrev S_stretch_of : Scope := defScope x_stretch_of
def N_stretch_of : List Str := ["book", "piece", "first", "many"]
def T_stretch_of : List Str := ["book", "piece", "first", "many"]
theorem sc_stretch_of : FnScope N_stretch_of ["book", "piece", "first", "many"] S_stretch_of := ⟨rfl, rfl, rfl, by decide +kernel, rfl, by decide +kernel, by decide +kernel⟩
theorem v_stretch_of_piece : Nm N_stretch_of S_stretch_of 1 "piece" := nm_by (by decide +kernel)
theorem v_stretch_of_book : Nm N_stretch_of S_stretch_of 0 "book" := nm_by (by decide +kernel)
theorem g_stretch_of_check_piece : glS S_stretch_of "check_piece" = true := by decide +kernel
theorem v_stretch_of_first : Nm N_stretch_of S_stretch_of 2 "first" := nm_by (by decide +kernel)
theorem v_stretch_of_many : Nm N_stretch_of S_stretch_of 3 "many" := nm_by (by decide +kernel)
theorem g_stretch_of_longs_of : glS S_stretch_of "longs_of" = true := by decide +kernel
theorem g_stretch_of_stretch_in : glS S_stretch_of "stretch_in" = true := by decide +kernel
abbrev Γ_stretch_of (c_check_piece c_longs_of c_stretch_in : Fn) : Gm := ⟨N_stretch_of, S_stretch_of, T_stretch_of, BI, [("check_piece", c_check_piece), ("longs_of", c_longs_of), ("stretch_in", c_stretch_in)], []⟩
theorem J_stretch_of (c_check_piece c_longs_of c_stretch_in : Fn) : JSs (Γ_stretch_of c_check_piece c_longs_of c_stretch_in) (defBody x_stretch_of) (B_stretch_of c_check_piece c_longs_of c_stretch_in) := (jss_cons (jst_ex (k_call ⟨g_stretch_of_check_piece, rfl, rfl⟩ (jg_v (k_mv v_stretch_of_book) (jg_v (k_mv v_stretch_of_piece) jg_nil)) (fun _ => rfl) (fun _ => rfl)) (fun _ => rfl)) (jss_cons (jst_ret (k_call ⟨g_stretch_of_stretch_in, rfl, rfl⟩ (jg_v (k_mv v_stretch_of_book) (jg_v (je_fz (k_callO ⟨g_stretch_of_longs_of, rfl, rfl⟩ (jg_v (k_mv v_stretch_of_book) jg_nil) (fun _ => rfl) (fun _ => rfl))) (jg_v (k_mv v_stretch_of_piece) (jg_v (k_mv v_stretch_of_first) (jg_v (je_op p_add (k_mv v_stretch_of_first) (k_mv v_stretch_of_many)) jg_nil))))) (fun _ => rfl) (fun _ => rfl))) jss_nil))
/-! letter_at -/
abbrev x_letter_at : Stmt := topS 32
abbrev S_letter_at : Scope := defScope x_letter_at
def N_letter_at : List Str := ["book", "piece", "place", "found"]
def T_letter_at : List Str := ["book", "piece", "place", "found"]
theorem sc_letter_at : FnScope N_letter_at ["book", "piece", "place"] S_letter_at := ⟨rfl, rfl, rfl, by decide +kernel, rfl, by decide +kernel, by decide +kernel⟩
theorem v_letter_at_piece : Nm N_letter_at S_letter_at 1 "piece" := nm_by (by decide +kernel)
theorem v_letter_at_book : Nm N_letter_at S_letter_at 0 "book" := nm_by (by decide +kernel)
theorem g_letter_at_check_piece : glS S_letter_at "check_piece" = true := by decide +kernel
theorem v_letter_at_place : Nm N_letter_at S_letter_at 2 "place" := nm_by (by decide +kernel)
theorem g_letter_at_stretch_of : glS S_letter_at "stretch_of" = true := by decide +kernel
theorem s_letter_at_found : Ns N_letter_at S_letter_at T_letter_at 3 "found" := ns_by (by decide +kernel)
theorem v_letter_at_found : Nm N_letter_at S_letter_at 3 "found" := nm_by (by decide +kernel)
abbrev Γ_letter_at (c_check_piece c_stretch_of : Fn) : Gm := ⟨N_letter_at, S_letter_at, T_letter_at, BI, [("check_piece", c_check_piece), ("stretch_of", c_stretch_of)], []⟩
theorem J_letter_at (c_check_piece c_stretch_of : Fn) : JSs (Γ_letter_at c_check_piece c_stretch_of) (defBody x_letter_at) (B_letter_at c_check_piece c_stretch_of) := (jss_cons (jst_ex (k_call ⟨g_letter_at_check_piece, rfl, rfl⟩ (jg_v (k_mv v_letter_at_book) (jg_v (k_mv v_letter_at_piece) jg_nil)) (fun _ => rfl) (fun _ => rfl)) (fun _ => rfl)) (jss_cons (k_set s_letter_at_found (je_if (jt_cmp p_ge (k_mv v_letter_at_place) je_int rfl) (k_call ⟨g_letter_at_stretch_of, rfl, rfl⟩ (jg_v (k_mv v_letter_at_book) (jg_v (k_mv v_letter_at_piece) (jg_v (k_mv v_letter_at_place) (jg_v je_int jg_nil)))) (fun _ => rfl) (fun _ => rfl)) (je_str (l := []) (by decide +kernel) (by decide))) (fun _ => rfl)) (jss_cons (jst_ret (je_if (jt_cmp p_ne (k_mv v_letter_at_found) (je_str (l := []) (by decide +kernel) (by decide)) rfl) (k_mv v_letter_at_found) je_non)) jss_nil)))
/-! first_place -/
abbrev x_first_place : Stmt := topS 33
abbrev S_first_place : Scope := defScope x_first_place
def N_first_place : List Str := ["book", "piece", "letter", "longs", "firsts", "parts", "begin", "found", "part", "own"]
def T_first_place : List Str := ["book", "piece", "letter", "longs", "firsts", "parts", "begin", "found", "part", "own"]
theorem sc_first_place : FnScope N_first_place ["book", "piece", "letter"] S_first_place := ⟨rfl, rfl, rfl, by decide +kernel, rfl, by decide +kernel, by decide +kernel⟩
theorem v_first_place_piece : Nm N_first_place S_first_place 1 "piece" := nm_by (by decide +kernel)
theorem v_first_place_book : Nm N_first_place S_first_place 0 "book" := nm_by (by decide +kernel)
theorem g_first_place_check_piece : glS S_first_place "check_piece" = true := by decide +kernel
theorem g_first_place_longs_of : glS S_first_place "longs_of" = true := by decide +kernel
theorem s_first_place_longs : Ns N_first_place S_first_place T_first_place 3 "longs" := ns_by (by decide +kernel)
theorem s_first_place_firsts : Ns N_first_place S_first_place T_first_place 4 "firsts" := ns_by (by decide +kernel)
theorem l_first_place_longs : S_first_place.names.lookup ("longs" : Str) = some .local := by decide +kernel
theorem l_first_place_firsts : S_first_place.names.lookup ("firsts" : Str) = some .local := by decide +kernel
theorem s_first_place_parts : Ns N_first_place S_first_place T_first_place 5 "parts" := ns_by (by decide +kernel)
theorem v_first_place_firsts : Nm N_first_place S_first_place 4 "firsts" := nm_by (by decide +kernel)
theorem v_first_place_found : Nm N_first_place S_first_place 7 "found" := nm_by (by decide +kernel)
theorem v_first_place_parts : Nm N_first_place S_first_place 5 "parts" := nm_by (by decide +kernel)
theorem s_first_place_part : Ns N_first_place S_first_place T_first_place 8 "part" := ns_by (by decide +kernel)
theorem v_first_place_part : Nm N_first_place S_first_place 8 "part" := nm_by (by decide +kernel)
theorem g_first_place_isinstance : glS S_first_place "isinstance" = true := by decide +kernel
theorem g_first_place_str : glS S_first_place "str" = true := by decide +kernel
theorem g_first_place_len : glS S_first_place "len" = true := by decide +kernel
theorem v_first_place_longs : Nm N_first_place S_first_place 3 "longs" := nm_by (by decide +kernel)
theorem s_first_place_begin : Ns N_first_place S_first_place T_first_place 6 "begin" := ns_by (by decide +kernel)
theorem v_first_place_own : Nm N_first_place S_first_place 9 "own" := nm_by (by decide +kernel)
theorem v_first_place_begin : Nm N_first_place S_first_place 6 "begin" := nm_by (by decide +kernel)
theorem s_first_place_found : Ns N_first_place S_first_place T_first_place 7 "found" := ns_by (by decide +kernel)
theorem v_first_place_letter : Nm N_first_place S_first_place 2 "letter" := nm_by (by decide +kernel)
theorem s_first_place_own : Ns N_first_place S_first_place T_first_place 9 "own" := ns_by (by decide +kernel)
abbrev Γ_first_place (c_check_piece c_longs_of : Fn) : Gm := ⟨N_first_place, S_first_place, T_first_place, BI, [("check_piece", c_check_piece), ("longs_of", c_longs_of)], []⟩
theorem J_first_place_0 (c_check_piece c_longs_of : Fn) : JSt (Γ_first_place c_check_piece c_longs_of) ((defBody x_first_place).getD 0 (.Pass ⟨0, 0, 0, 0⟩)) (B_first_place_0 c_check_piece c_longs_of) := (jst_ex (k_call ⟨g_first_place_check_piece, rfl, rfl⟩ (jg_v (k_mv v_first_place_book) (jg_v (k_mv v_first_place_piece) jg_nil)) (fun _ => rfl) (fun _ => rfl)) (fun _ => rfl))
theorem J_first_place_1 (c_check_piece c_longs_of : Fn) : JSt (Γ_first_place c_check_piece c_longs_of) ((defBody x_first_place).getD 1 (.Pass ⟨0, 0, 0, 0⟩)) (B_first_place_1 c_check_piece c_longs_of) := (k_par s_first_place_longs s_first_place_firsts (jg_o (k_callO ⟨g_first_place_longs_of, rfl, rfl⟩ (jg_v (k_mv v_first_place_book) jg_nil) (fun _ => rfl) (fun _ => rfl)) (jg_o (jo_lst ja_nil) jg_nil)) (by decide) l_first_place_longs l_first_place_firsts rfl (fun _ => rfl))
theorem J_first_place_2 (c_check_piece c_longs_of : Fn) : JSt (Γ_first_place c_check_piece c_longs_of) ((defBody x_first_place).getD 2 (.Pass ⟨0, 0, 0, 0⟩)) (B_first_place_2 c_check_piece c_longs_of) := (jst_for (ji_val (k_mv v_first_place_book)) (k_name s_first_place_parts) (jss_cons (k_as (je_tup (ja_cons je_int (ja_cons je_non ja_nil))) (jg_tup (jgs_cons (k_name s_first_place_begin) (jgs_cons (k_name s_first_place_found) jgs_nil (fun _ => rfl)) (fun _ => rfl)) (fun _ => rfl) (fun _ => rfl)) (fun _ => rfl) rfl (fun _ => rfl)) (jss_cons (jst_for (ji_val (k_mv v_first_place_parts)) (k_name s_first_place_part) (jss_cons (k_set s_first_place_own (je_if (jt_val (k_isi ⟨g_first_place_isinstance, t_isinstance⟩ (k_mv v_first_place_part) ⟨g_first_place_str, t_str⟩ (by decide)) (fun _ _ => rfl)) (je_m1 m_find PySem.F.slot_str_find PySem.F.type_str_find (k_mv v_first_place_part) (k_l v_first_place_letter) (fun _ => rfl) rfl) (k_ixN v_first_place_firsts (k_mv v_first_place_part) (fun _ _ => rfl))) (fun _ => rfl)) (jss_cons (jst_if (JW.jt (jw_and (jt_cmp p_is (k_mv v_first_place_found) je_non rfl) (jw_and (jt_cmp p_isNot (k_mv v_first_place_own) je_non rfl) (jw_and1 (jt_cmp p_ge (k_mv v_first_place_own) je_int rfl))))) (jss_cons (k_set s_first_place_found (je_op p_add (k_mv v_first_place_begin) (k_mv v_first_place_own)) (fun _ => rfl)) jss_nil) jss_nil) (jss_cons (k_aug s_first_place_begin i_add (je_if (jt_val (k_isi ⟨g_first_place_isinstance, t_isinstance⟩ (k_mv v_first_place_part) ⟨g_first_place_str, t_str⟩ (by decide)) (fun _ _ => rfl)) (k_b1 ⟨g_first_place_len, t_len⟩ b_len (k_l v_first_place_part) rfl) (k_ixN v_first_place_longs (k_mv v_first_place_part) (fun _ _ => rfl)))) jss_nil))) (fun _ _ => rfl)) (jss_cons (jst_ex (k_app v_first_place_firsts (k_mv v_first_place_found) (fun _ => rfl) (fun _ => rfl) rfl) (fun _ => rfl)) jss_nil))) (fun _ _ => rfl))
theorem J_first_place_3 (c_check_piece c_longs_of : Fn) : JSt (Γ_first_place c_check_piece c_longs_of) ((defBody x_first_place).getD 3 (.Pass ⟨0, 0, 0, 0⟩)) (B_first_place_3 c_check_piece c_longs_of) := (jst_ret (k_ixN v_first_place_firsts (k_mv v_first_place_piece) (fun _ _ => rfl)))
theorem J_first_place (c_check_piece c_longs_of : Fn) : JSs (Γ_first_place c_check_piece c_longs_of) (defBody x_first_place) (B_first_place c_check_piece c_longs_of) := (jss_cons (J_first_place_0 c_check_piece c_longs_of) (jss_cons (J_first_place_1 c_check_piece c_longs_of) (jss_cons (J_first_place_2 c_check_piece c_longs_of) (jss_cons (J_first_place_3 c_check_piece c_longs_of) jss_nil))))
/-! last_place -/
abbrev x_last_place : Stmt := topS 34
abbrev S_last_place : Scope := defScope x_last_place
def N_last_place : List Str := ["book", "piece", "letter", "longs", "lasts", "parts", "begin", "found", "part", "own"]
def T_last_place : List Str := ["book", "piece", "letter", "longs", "lasts", "parts", "begin", "found", "part", "own"]
theorem sc_last_place : FnScope N_last_place ["book", "piece", "letter"] S_last_place := ⟨rfl, rfl, rfl, by decide +kernel, rfl, by decide +kernel, by decide +kernel⟩
theorem v_last_place_piece : Nm N_last_place S_last_place 1 "piece" := nm_by (by decide +kernel)
theorem v_last_place_book : Nm N_last_place S_last_place 0 "book" := nm_by (by decide +kernel)
theorem g_last_place_check_piece : glS S_last_place "check_piece" = true := by decide +kernel
theorem g_last_place_longs_of : glS S_last_place "longs_of" = true := by decide +kernel
theorem s_last_place_longs : Ns N_last_place S_last_place T_last_place 3 "longs" := ns_by (by decide +kernel)
theorem s_last_place_lasts : Ns N_last_place S_last_place T_last_place 4 "lasts" := ns_by (by decide +kernel)
theorem l_last_place_longs : S_last_place.names.lookup ("longs" : Str) = some .local := by decide +kernel
theorem l_last_place_lasts : S_last_place.names.lookup ("lasts" : Str) = some .local := by decide +kernel
theorem s_last_place_parts : Ns N_last_place S_last_place T_last_place 5 "parts" := ns_by (by decide +kernel)
theorem v_last_place_lasts : Nm N_last_place S_last_place 4 "lasts" := nm_by (by decide +kernel)
theorem v_last_place_found : Nm N_last_place S_last_place 7 "found" := nm_by (by decide +kernel)
theorem v_last_place_parts : Nm N_last_place S_last_place 5 "parts" := nm_by (by decide +kernel)
theorem s_last_place_part : Ns N_last_place S_last_place T_last_place 8 "part" := ns_by (by decide +kernel)
theorem v_last_place_part : Nm N_last_place S_last_place 8 "part" := nm_by (by decide +kernel)
theorem g_last_place_isinstance : glS S_last_place "isinstance" = true := by decide +kernel
theorem g_last_place_str : glS S_last_place "str" = true := by decide +kernel
theorem g_last_place_len : glS S_last_place "len" = true := by decide +kernel
theorem v_last_place_longs : Nm N_last_place S_last_place 3 "longs" := nm_by (by decide +kernel)
theorem s_last_place_begin : Ns N_last_place S_last_place T_last_place 6 "begin" := ns_by (by decide +kernel)
theorem v_last_place_own : Nm N_last_place S_last_place 9 "own" := nm_by (by decide +kernel)
theorem v_last_place_begin : Nm N_last_place S_last_place 6 "begin" := nm_by (by decide +kernel)
theorem s_last_place_found : Ns N_last_place S_last_place T_last_place 7 "found" := ns_by (by decide +kernel)
theorem v_last_place_letter : Nm N_last_place S_last_place 2 "letter" := nm_by (by decide +kernel)
theorem s_last_place_own : Ns N_last_place S_last_place T_last_place 9 "own" := ns_by (by decide +kernel)
abbrev Γ_last_place (c_check_piece c_longs_of : Fn) : Gm := ⟨N_last_place, S_last_place, T_last_place, BI, [("check_piece", c_check_piece), ("longs_of", c_longs_of)], []⟩
theorem J_last_place_0 (c_check_piece c_longs_of : Fn) : JSt (Γ_last_place c_check_piece c_longs_of) ((defBody x_last_place).getD 0 (.Pass ⟨0, 0, 0, 0⟩)) (B_last_place_0 c_check_piece c_longs_of) := (jst_ex (k_call ⟨g_last_place_check_piece, rfl, rfl⟩ (jg_v (k_mv v_last_place_book) (jg_v (k_mv v_last_place_piece) jg_nil)) (fun _ => rfl) (fun _ => rfl)) (fun _ => rfl))
theorem J_last_place_1 (c_check_piece c_longs_of : Fn) : JSt (Γ_last_place c_check_piece c_longs_of) ((defBody x_last_place).getD 1 (.Pass ⟨0, 0, 0, 0⟩)) (B_last_place_1 c_check_piece c_longs_of) := (k_par s_last_place_longs s_last_place_lasts (jg_o (k_callO ⟨g_last_place_longs_of, rfl, rfl⟩ (jg_v (k_mv v_last_place_book) jg_nil) (fun _ => rfl) (fun _ => rfl)) (jg_o (jo_lst ja_nil) jg_nil)) (by decide) l_last_place_longs l_last_place_lasts rfl (fun _ => rfl))
theorem J_last_place_2 (c_check_piece c_longs_of : Fn) : JSt (Γ_last_place c_check_piece c_longs_of) ((defBody x_last_place).getD 2 (.Pass ⟨0, 0, 0, 0⟩)) (B_last_place_2 c_check_piece c_longs_of) := (jst_for (ji_val (k_mv v_last_place_book)) (k_name s_last_place_parts) (jss_cons (k_as (je_tup (ja_cons je_int (ja_cons je_non ja_nil))) (jg_tup (jgs_cons (k_name s_last_place_begin) (jgs_cons (k_name s_last_place_found) jgs_nil (fun _ => rfl)) (fun _ => rfl)) (fun _ => rfl) (fun _ => rfl)) (fun _ => rfl) rfl (fun _ => rfl)) (jss_cons (jst_for (ji_val (k_mv v_last_place_parts)) (k_name s_last_place_part) (jss_cons (k_set s_last_place_own (je_if (jt_val (k_isi ⟨g_last_place_isinstance, t_isinstance⟩ (k_mv v_last_place_part) ⟨g_last_place_str, t_str⟩ (by decide)) (fun _ _ => rfl)) (je_m1 m_rfind PySem.F.slot_str_rfind PySem.F.type_str_rfind (k_mv v_last_place_part) (k_l v_last_place_letter) (fun _ => rfl) rfl) (k_ixN v_last_place_lasts (k_mv v_last_place_part) (fun _ _ => rfl))) (fun _ => rfl)) (jss_cons (jst_if (JW.jt (jw_and (jt_cmp p_isNot (k_mv v_last_place_own) je_non rfl) (jw_and1 (jt_cmp p_ge (k_mv v_last_place_own) je_int rfl)))) (jss_cons (k_set s_last_place_found (je_op p_add (k_mv v_last_place_begin) (k_mv v_last_place_own)) (fun _ => rfl)) jss_nil) jss_nil) (jss_cons (k_aug s_last_place_begin i_add (je_if (jt_val (k_isi ⟨g_last_place_isinstance, t_isinstance⟩ (k_mv v_last_place_part) ⟨g_last_place_str, t_str⟩ (by decide)) (fun _ _ => rfl)) (k_b1 ⟨g_last_place_len, t_len⟩ b_len (k_l v_last_place_part) rfl) (k_ixN v_last_place_longs (k_mv v_last_place_part) (fun _ _ => rfl)))) jss_nil))) (fun _ _ => rfl)) (jss_cons (jst_ex (k_app v_last_place_lasts (k_mv v_last_place_found) (fun _ => rfl) (fun _ => rfl) rfl) (fun _ => rfl)) jss_nil))) (fun _ _ => rfl))
theorem J_last_place_3 (c_check_piece c_longs_of : Fn) : JSt (Γ_last_place c_check_piece c_longs_of) ((defBody x_last_place).getD 3 (.Pass ⟨0, 0, 0, 0⟩)) (B_last_place_3 c_check_piece c_longs_of) := (jst_ret (k_ixN v_last_place_lasts (k_mv v_last_place_piece) (fun _ _ => rfl)))
theorem J_last_place (c_check_piece c_longs_of : Fn) : JSs (Γ_last_place c_check_piece c_longs_of) (defBody x_last_place) (B_last_place c_check_piece c_longs_of) := (jss_cons (J_last_place_0 c_check_piece c_longs_of) (jss_cons (J_last_place_1 c_check_piece c_longs_of) (jss_cons (J_last_place_2 c_check_piece c_longs_of) (jss_cons (J_last_place_3 c_check_piece c_longs_of) jss_nil))))
/-! form_in_stretch -/
abbrev x_form_in_stretch : Stmt := topS 35
abbrev S_form_in_stretch : Scope := defScope x_form_in_stretch
def N_form_in_stretch : List Str := ["book", "known", "piece", "first", "last", "longs", "forms", "found", "begin", "part", "low", "high", "many", "whole"]
def T_form_in_stretch : List Str := ["book", "known", "piece", "first", "last", "longs", "forms", "found", "begin", "part", "low", "high", "many", "whole"]
theorem sc_form_in_stretch : FnScope N_form_in_stretch ["book", "known", "piece", "first", "last"] S_form_in_stretch := ⟨rfl, rfl, rfl, by decide +kernel, rfl, by decide +kernel, by decide +kernel⟩
theorem s_form_in_stretch_forms : Ns N_form_in_stretch S_form_in_stretch T_form_in_stretch 6 "forms" := ns_by (by decide +kernel)
theorem s_form_in_stretch_longs : Ns N_form_in_stretch S_form_in_stretch T_form_in_stretch 5 "longs" := ns_by (by decide +kernel)
theorem v_form_in_stretch_known : Nm N_form_in_stretch S_form_in_stretch 1 "known" := nm_by (by decide +kernel)
theorem s_form_in_stretch_begin : Ns N_form_in_stretch S_form_in_stretch T_form_in_stretch 8 "begin" := ns_by (by decide +kernel)
theorem s_form_in_stretch_found : Ns N_form_in_stretch S_form_in_stretch T_form_in_stretch 7 "found" := ns_by (by decide +kernel)
theorem v_form_in_stretch_piece : Nm N_form_in_stretch S_form_in_stretch 2 "piece" := nm_by (by decide +kernel)
theorem v_form_in_stretch_book : Nm N_form_in_stretch S_form_in_stretch 0 "book" := nm_by (by decide +kernel)
theorem s_form_in_stretch_part : Ns N_form_in_stretch S_form_in_stretch T_form_in_stretch 9 "part" := ns_by (by decide +kernel)
theorem v_form_in_stretch_many : Nm N_form_in_stretch S_form_in_stretch 12 "many" := nm_by (by decide +kernel)
theorem v_form_in_stretch_low : Nm N_form_in_stretch S_form_in_stretch 10 "low" := nm_by (by decide +kernel)
theorem v_form_in_stretch_high : Nm N_form_in_stretch S_form_in_stretch 11 "high" := nm_by (by decide +kernel)
theorem v_form_in_stretch_part : Nm N_form_in_stretch S_form_in_stretch 9 "part" := nm_by (by decide +kernel)
theorem g_form_in_stretch_isinstance : glS S_form_in_stretch "isinstance" = true := by decide +kernel
theorem g_form_in_stretch_str : glS S_form_in_stretch "str" = true := by decide +kernel
theorem g_form_in_stretch_form_of : glS S_form_in_stretch "form_of" = true := by decide +kernel
theorem v_form_in_stretch_found : Nm N_form_in_stretch S_form_in_stretch 7 "found" := nm_by (by decide +kernel)
theorem g_form_in_stretch_product : glS S_form_in_stretch "product" = true := by decide +kernel
theorem v_form_in_stretch_whole : Nm N_form_in_stretch S_form_in_stretch 13 "whole" := nm_by (by decide +kernel)
theorem v_form_in_stretch_forms : Nm N_form_in_stretch S_form_in_stretch 6 "forms" := nm_by (by decide +kernel)
theorem g_form_in_stretch_form_in_stretch : glS S_form_in_stretch "form_in_stretch" = true := by decide +kernel
theorem s_form_in_stretch_whole : Ns N_form_in_stretch S_form_in_stretch T_form_in_stretch 13 "whole" := ns_by (by decide +kernel)
theorem s_form_in_stretch_many : Ns N_form_in_stretch S_form_in_stretch T_form_in_stretch 12 "many" := ns_by (by decide +kernel)
theorem s_form_in_stretch_high : Ns N_form_in_stretch S_form_in_stretch T_form_in_stretch 11 "high" := ns_by (by decide +kernel)
theorem s_form_in_stretch_low : Ns N_form_in_stretch S_form_in_stretch T_form_in_stretch 10 "low" := ns_by (by decide +kernel)
theorem v_form_in_stretch_last : Nm N_form_in_stretch S_form_in_stretch 4 "last" := nm_by (by decide +kernel)
theorem v_form_in_stretch_first : Nm N_form_in_stretch S_form_in_stretch 3 "first" := nm_by (by decide +kernel)
theorem v_form_in_stretch_begin : Nm N_form_in_stretch S_form_in_stretch 8 "begin" := nm_by (by decide +kernel)
theorem v_form_in_stretch_longs : Nm N_form_in_stretch S_form_in_stretch 5 "longs" := nm_by (by decide +kernel)
theorem g_form_in_stretch_cut_to : glS S_form_in_stretch "cut_to" = true := by decide +kernel
abbrev Γ_form_in_stretch (c_form_of c_product c_form_in_stretch c_cut_to : Fn) : Gm := ⟨N_form_in_stretch, S_form_in_stretch, T_form_in_stretch, BI, [("form_of", c_form_of), ("product", c_product), ("form_in_stretch", c_form_in_stretch), ("cut_to", c_cut_to)], []⟩
theorem J_form_in_stretch_0 (c_form_of c_product c_form_in_stretch c_cut_to : Fn) : JSt (Γ_form_in_stretch c_form_of c_product c_form_in_stretch c_cut_to) ((defBody x_form_in_stretch).getD 0 (.Pass ⟨0, 0, 0, 0⟩)) (B_form_in_stretch_0 c_form_of c_product c_form_in_stretch c_cut_to) := (k_as (k_mv v_form_in_stretch_known) (jg_tup (jgs_cons (k_name s_form_in_stretch_longs) (jgs_cons (k_name s_form_in_stretch_forms) jgs_nil (fun _ => rfl)) (fun _ => rfl)) (fun _ => rfl) (fun _ => rfl)) (fun _ => rfl) rfl (fun _ => rfl))
theorem J_form_in_stretch_1 (c_form_of c_product c_form_in_stretch c_cut_to : Fn) : JSt (Γ_form_in_stretch c_form_of c_product c_form_in_stretch c_cut_to) ((defBody x_form_in_stretch).getD 1 (.Pass ⟨0, 0, 0, 0⟩)) (B_form_in_stretch_1 c_form_of c_product c_form_in_stretch c_cut_to) := (k_as (je_tup (ja_cons (je_tup ja_nil) (ja_cons je_int ja_nil))) (jg_tup (jgs_cons (k_name s_form_in_stretch_found) (jgs_cons (k_name s_form_in_stretch_begin) jgs_nil (fun _ => rfl)) (fun _ => rfl)) (fun _ => rfl) (fun _ => rfl)) (fun _ => rfl) rfl (fun _ => rfl))
theorem J_form_in_stretch_2 (c_form_of c_product c_form_in_stretch c_cut_to : Fn) : JSt (Γ_form_in_stretch c_form_of c_product c_form_in_stretch c_cut_to) ((defBody x_form_in_stretch).getD 2 (.Pass ⟨0, 0, 0, 0⟩)) (B_form_in_stretch_2 c_form_of c_product c_form_in_stretch c_cut_to) := (jst_for (ji_val (k_ixN v_form_in_stretch_book (k_mv v_form_in_stretch_piece) (fun _ _ => rfl))) (k_name s_form_in_stretch_part) (jss_cons (k_as (k_call ⟨g_form_in_stretch_cut_to, rfl, rfl⟩ (jg_v (k_mv v_form_in_stretch_part) (jg_v (k_mv v_form_in_stretch_longs) (jg_v (k_mv v_form_in_stretch_begin) (jg_v (k_mv v_form_in_stretch_first) (jg_v (k_mv v_form_in_stretch_last) jg_nil))))) (fun _ => rfl) (fun _ => rfl)) (jg_tup (jgs_cons (k_name s_form_in_stretch_low) (jgs_cons (k_name s_form_in_stretch_high) (jgs_cons (k_name s_form_in_stretch_many) jgs_nil (fun _ => rfl)) (fun _ => rfl)) (fun _ => rfl)) (fun _ => rfl) (fun _ => rfl)) (fun _ => rfl) rfl (fun _ => rfl)) (jss_cons (jst_if (jt_cmp p_lt (k_mv v_form_in_stretch_low) (k_mv v_form_in_stretch_high) rfl) (jss_cons (jst_if (jt_val (k_isi ⟨g_form_in_stretch_isinstance, t_isinstance⟩ (k_mv v_form_in_stretch_part) ⟨g_form_in_stretch_str, t_str⟩ (by decide)) (fun _ _ => rfl)) (jss_cons (k_set s_form_in_stretch_found (k_call ⟨g_form_in_stretch_product, rfl, rfl⟩ (jg_v (k_mv v_form_in_stretch_found) (jg_v (k_call ⟨g_form_in_stretch_form_of, rfl, rfl⟩ (jg_v (je_sl (k_mv v_form_in_stretch_part) (jp_of (k_mv v_form_in_stretch_low)) (jp_of (k_mv v_form_in_stretch_high))) jg_nil) (fun _ => rfl) (fun _ => rfl)) jg_nil)) (fun _ => rfl) (fun _ => rfl)) (fun _ => rfl)) jss_nil) (jss_cons (k_set s_form_in_stretch_whole (je_and (je_cmp p_eq (k_mv v_form_in_stretch_low) je_int rfl) (je_one (je_cmp p_eq (k_mv v_form_in_stretch_high) (k_mv v_form_in_stretch_many) rfl))) (fun _ => rfl)) (jss_cons (k_set s_form_in_stretch_found (k_call ⟨g_form_in_stretch_product, rfl, rfl⟩ (jg_v (k_mv v_form_in_stretch_found) (jg_v (je_if (jt_val (k_mv v_form_in_stretch_whole) (fun _ _ => rfl)) (k_ixN v_form_in_stretch_forms (k_mv v_form_in_stretch_part) (fun _ _ => rfl)) (k_call ⟨g_form_in_stretch_form_in_stretch, rfl, rfl⟩ (jg_v (k_mv v_form_in_stretch_book) (jg_v (k_mv v_form_in_stretch_known) (jg_v (k_mv v_form_in_stretch_part) (jg_v (k_mv v_form_in_stretch_low) (jg_v (k_mv v_form_in_stretch_high) jg_nil))))) (fun _ => rfl) (fun _ => rfl))) jg_nil)) (fun _ => rfl) (fun _ => rfl)) (fun _ => rfl)) jss_nil))) jss_nil) jss_nil) (jss_cons (k_aug s_form_in_stretch_begin i_add (k_mv v_form_in_stretch_many)) jss_nil))) (fun _ _ => rfl))
theorem J_form_in_stretch_3 (c_form_of c_product c_form_in_stretch c_cut_to : Fn) : JSt (Γ_form_in_stretch c_form_of c_product c_form_in_stretch c_cut_to) ((defBody x_form_in_stretch).getD 3 (.Pass ⟨0, 0, 0, 0⟩)) (B_form_in_stretch_3 c_form_of c_product c_form_in_stretch c_cut_to) := (jst_ret (k_mv v_form_in_stretch_found))
theorem J_form_in_stretch (c_form_of c_product c_form_in_stretch c_cut_to : Fn) : JSs (Γ_form_in_stretch c_form_of c_product c_form_in_stretch c_cut_to) (defBody x_form_in_stretch) (B_form_in_stretch c_form_of c_product c_form_in_stretch c_cut_to) := (jss_cons (J_form_in_stretch_0 c_form_of c_product c_form_in_stretch c_cut_to) (jss_cons (J_form_in_stretch_1 c_form_of c_product c_form_in_stretch c_cut_to) (jss_cons (J_form_in_stretch_2 c_form_of c_product c_form_in_stretch c_cut_to) (jss_cons (J_form_in_stretch_3 c_form_of c_product c_form_in_stretch c_cut_to) jss_nil))))
/-! form_between -/
abbrev x_form_between : Stmt := topS 36
abbrev S_form_between : Scope := defScope x_form_between
def N_form_between : List Str := ["book", "piece", "first", "last"]
def T_form_between : List Str := ["book", "piece", "first", "last"]
theorem sc_form_between : FnScope N_form_between ["book", "piece", "first", "last"] S_form_between := ⟨rfl, rfl, rfl, by decide +kernel, rfl, by decide +kernel, by decide +kernel⟩
theorem v_form_between_piece : Nm N_form_between S_form_between 1 "piece" := nm_by (by decide +kernel)
theorem v_form_between_book : Nm N_form_between S_form_between 0 "book" := nm_by (by decide +kernel)
theorem g_form_between_check_piece : glS S_form_between "check_piece" = true := by decide +kernel
theorem v_form_between_last : Nm N_form_between S_form_between 3 "last" := nm_by (by decide +kernel)
theorem v_form_between_first : Nm N_form_between S_form_between 2 "first" := nm_by (by decide +kernel)
theorem g_form_between_forms_of : glS S_form_between "forms_of" = true := by decide +kernel
theorem g_form_between_longs_of : glS S_form_between "longs_of" = true := by decide +kernel
theorem g_form_between_form_in_stretch : glS S_form_between "form_in_stretch" = true := by decide +kernel
abbrev Γ_form_between (c_check_piece c_forms_of c_longs_of c_form_in_stretch : Fn) : Gm := ⟨N_form_between, S_form_between, T_form_between, BI, [("check_piece", c_check_piece), ("forms_of", c_forms_of), ("longs_of", c_longs_of), ("form_in_stretch", c_form_in_stretch)], []⟩
theorem J_form_between (c_check_piece c_forms_of c_longs_of c_form_in_stretch : Fn) : JSs (Γ_form_between c_check_piece c_forms_of c_longs_of c_form_in_stretch) (defBody x_form_between) (B_form_between c_check_piece c_forms_of c_longs_of c_form_in_stretch) := (jss_cons (jst_ex (k_call ⟨g_form_between_check_piece, rfl, rfl⟩ (jg_v (k_mv v_form_between_book) (jg_v (k_mv v_form_between_piece) jg_nil)) (fun _ => rfl) (fun _ => rfl)) (fun _ => rfl)) (jss_cons (jst_ret (k_call ⟨g_form_between_form_in_stretch, rfl, rfl⟩ (jg_v (k_mv v_form_between_book) (jg_v (je_tup (ja_cons (je_fz (k_callO ⟨g_form_between_longs_of, rfl, rfl⟩ (jg_v (k_mv v_form_between_book) jg_nil) (fun _ => rfl) (fun _ => rfl))) (ja_cons (je_fz (k_callO ⟨g_form_between_forms_of, rfl, rfl⟩ (jg_v (k_mv v_form_between_book) jg_nil) (fun _ => rfl) (fun _ => rfl))) ja_nil))) (jg_v (k_mv v_form_between_piece) (jg_v (k_mv v_form_between_first) (jg_v (k_mv v_form_between_last) jg_nil))))) (fun _ => rfl) (fun _ => rfl))) jss_nil))
/-! _law_box -/
abbrev x__law_box : Stmt := topS 38
abbrev S__law_box : Scope := defScope x__law_box
def N__law_box : List Str := ["script", "k", "bit_so"]
def T__law_box : List Str := ["script", "k", "bit_so"]
theorem sc__law_box : FnScope N__law_box ["script", "k"] S__law_box := ⟨rfl, rfl, rfl, by decide +kernel, rfl, by decide +kernel, by decide +kernel⟩
theorem v__law_box_k : Nm N__law_box S__law_box 1 "k" := nm_by (by decide +kernel)
theorem v__law_box_script : Nm N__law_box S__law_box 0 "script" := nm_by (by decide +kernel)
theorem g__law_box_len : glS S__law_box "len" = true := by decide +kernel
theorem s__law_box_bit_so : Ns N__law_box S__law_box T__law_box 2 "bit_so" := ns_by (by decide +kernel)
theorem v__law_box_bit_so : Nm N__law_box S__law_box 2 "bit_so" := nm_by (by decide +kernel)
theorem g__law_box_int : glS S__law_box "int" = true := by decide +kernel
theorem g__law_box_abs : glS S__law_box "abs" = true := by decide +kernel
abbrev Γ__law_box : Gm := ⟨N__law_box, S__law_box, T__law_box, BI, [], []⟩
theorem J__law_box : JSs (Γ__law_box) (defBody x__law_box) (B__law_box) := (jss_cons (k_set s__law_box_bit_so (je_if (jt_cmp p_lt (k_mv v__law_box_k) (k_b1 ⟨g__law_box_len, t_len⟩ b_len (k_l v__law_box_script) rfl) rfl) (k_ixN v__law_box_script (k_mv v__law_box_k) (fun _ _ => rfl)) je_int) (fun _ => rfl)) (jss_cons (jst_retO (jo_lst (ja_cons (je_op p_mul (k_b1 ⟨g__law_box_abs, t_abs⟩ b_abs (k_l v__law_box_bit_so) rfl) (k_b1 ⟨g__law_box_int, t_int⟩ b_int (js_v (je_cmp p_ge (k_b1 ⟨g__law_box_abs, t_abs⟩ b_abs (k_l v__law_box_bit_so) rfl) (je_op p_pow je_int je_int) rfl)) rfl)) (ja_cons (je_op p_add (je_op p_add (je_op p_mod (k_b1 ⟨g__law_box_int, t_int⟩ b_int (k_l v__law_box_bit_so) rfl) je_int) (je_op p_mul je_int (k_mv v__law_box_k))) je_int) (ja_cons je_int ja_nil))))) jss_nil))
/-! _law_take -/
abbrev x__law_take : Stmt := topS 39
abbrev S__law_take : Scope := defScope x__law_take
def N__law_take : List Str := ["tin", "below_so", "drawn_so", "once_so", "wide_so", "twice_so"]
def T__law_take : List Str := ["tin", "below_so", "drawn_so", "once_so", "wide_so", "twice_so"]
theorem sc__law_take : FnScope N__law_take ["tin", "below_so"] S__law_take := ⟨rfl, rfl, rfl, by decide +kernel, rfl, by decide +kernel, by decide +kernel⟩
theorem v__law_take_tin : Nm N__law_take S__law_take 0 "tin" := nm_by (by decide +kernel)
theorem v__law_take_drawn_so : Nm N__law_take S__law_take 2 "drawn_so" := nm_by (by decide +kernel)
theorem v__law_take_below_so : Nm N__law_take S__law_take 1 "below_so" := nm_by (by decide +kernel)
theorem g__law_take_int : glS S__law_take "int" = true := by decide +kernel
theorem s__law_take_drawn_so : Ns N__law_take S__law_take T__law_take 2 "drawn_so" := ns_by (by decide +kernel)
theorem s__law_take_once_so : Ns N__law_take S__law_take T__law_take 3 "once_so" := ns_by (by decide +kernel)
theorem v__law_take_once_so : Nm N__law_take S__law_take 3 "once_so" := nm_by (by decide +kernel)
theorem s__law_take_wide_so : Ns N__law_take S__law_take T__law_take 4 "wide_so" := ns_by (by decide +kernel)
theorem v__law_take_wide_so : Nm N__law_take S__law_take 4 "wide_so" := nm_by (by decide +kernel)
theorem s__law_take_twice_so : Ns N__law_take S__law_take T__law_take 5 "twice_so" := ns_by (by decide +kernel)
theorem v__law_take_twice_so : Nm N__law_take S__law_take 5 "twice_so" := nm_by (by decide +kernel)
abbrev Γ__law_take : Gm := ⟨N__law_take, S__law_take, T__law_take, BI, [], []⟩
theorem J__law_take_0 : JSt (Γ__law_take) ((defBody x__law_take).getD 0 (.Pass ⟨0, 0, 0, 0⟩)) (B__law_take_0) := (jst_if (jt_cmp p_gt (k_ixN v__law_take_tin je_int (fun _ _ => rfl)) je_int rfl) (jss_cons (k_set s__law_take_drawn_so (je_op p_mod (k_b1 ⟨g__law_take_int, t_int⟩ b_int (js_v (k_ixN v__law_take_tin je_int (fun _ _ => rfl))) rfl) (k_mv v__law_take_below_so)) (fun _ => rfl)) (jss_cons (k_put v__law_take_tin je_int (je_op p_div (k_ixN v__law_take_tin je_int (fun _ _ => rfl)) (k_mv v__law_take_below_so)) (fun _ _ => rfl) (fun _ => rfl) (fun _ => rfl) (fun _ => rfl)) (jss_cons (jst_ret (k_mv v__law_take_drawn_so)) jss_nil))) jss_nil)
theorem J__law_take_1 : JSt (Γ__law_take) ((defBody x__law_take).getD 1 (.Pass ⟨0, 0, 0, 0⟩)) (B__law_take_1) := (k_put v__law_take_tin je_int (je_op p_add (k_ixN v__law_take_tin je_int (fun _ _ => rfl)) je_int) (fun _ _ => rfl) (fun _ => rfl) (fun _ => rfl) (fun _ => rfl))
theorem J__law_take_2 : JSt (Γ__law_take) ((defBody x__law_take).getD 2 (.Pass ⟨0, 0, 0, 0⟩)) (B__law_take_2) := (k_set s__law_take_once_so (je_op p_mod (k_b1 ⟨g__law_take_int, t_int⟩ b_int (js_v (je_op p_mul (je_op p_add (k_ixN v__law_take_tin je_int (fun _ _ => rfl)) (je_op p_mul je_int (k_ixN v__law_take_tin je_int (fun _ _ => rfl)))) (je_op p_add je_int (k_ixN v__law_take_tin je_int (fun _ _ => rfl))))) rfl) je_int) (fun _ => rfl))
theorem J__law_take_3 : JSt (Γ__law_take) ((defBody x__law_take).getD 3 (.Pass ⟨0, 0, 0, 0⟩)) (B__law_take_3) := (k_set s__law_take_wide_so (je_op p_add (je_op p_mod (k_b1 ⟨g__law_take_int, t_int⟩ b_int (k_l v__law_take_once_so) rfl) je_int) je_int) (fun _ => rfl))
theorem J__law_take_4 : JSt (Γ__law_take) ((defBody x__law_take).getD 4 (.Pass ⟨0, 0, 0, 0⟩)) (B__law_take_4) := (k_set s__law_take_twice_so (je_op p_mod (k_b1 ⟨g__law_take_int, t_int⟩ b_int (js_v (je_op p_mul (je_op p_add (je_op p_add (k_mv v__law_take_once_so) (k_ixN v__law_take_tin je_int (fun _ _ => rfl))) (je_op p_div (k_ixN v__law_take_tin je_int (fun _ _ => rfl)) je_int)) (k_mv v__law_take_wide_so))) rfl) je_int) (fun _ => rfl))
theorem J__law_take_5 : JSt (Γ__law_take) ((defBody x__law_take).getD 5 (.Pass ⟨0, 0, 0, 0⟩)) (B__law_take_5) := (jst_ret (je_op p_mod (k_b1 ⟨g__law_take_int, t_int⟩ b_int (js_v (je_op p_div (je_op p_mod (k_b1 ⟨g__law_take_int, t_int⟩ b_int (js_v (je_op p_add (je_op p_mul (k_mv v__law_take_twice_so) je_int) (k_mv v__law_take_once_so))) rfl) je_int) je_int)) rfl) (k_mv v__law_take_below_so)))
theorem J__law_take : JSs (Γ__law_take) (defBody x__law_take) (B__law_take) := (jss_cons (J__law_take_0) (jss_cons (J__law_take_1) (jss_cons (J__law_take_2) (jss_cons (J__law_take_3) (jss_cons (J__law_take_4) (jss_cons (J__law_take_5) jss_nil))))))
/-! _law_cells -/
abbrev x__law_cells : Stmt := topS 40
abbrev S__law_cells : Scope := defScope x__law_cells
def N__law_cells : List Str := ["script", "most_so", "cells_so", "k", "bit_so", "at_so"]
def T__law_cells : List Str := ["script", "most_so", "cells_so", "k", "bit_so", "at_so"]
theorem sc__law_cells : FnScope N__law_cells ["script", "most_so"] S__law_cells := ⟨rfl, rfl, rfl, by decide +kernel, rfl, by decide +kernel, by decide +kernel⟩
theorem v__law_cells_script : Nm N__law_cells S__law_cells 0 "script" := nm_by (by decide +kernel)
theorem v__law_cells_most_so : Nm N__law_cells S__law_cells 1 "most_so" := nm_by (by decide +kernel)
theorem g__law_cells_list : glS S__law_cells "list" = true := by decide +kernel
theorem s__law_cells_cells_so : Ns N__law_cells S__law_cells T__law_cells 2 "cells_so" := ns_by (by decide +kernel)
theorem g__law_cells_enumerate : glS S__law_cells "enumerate" = true := by decide +kernel
theorem s__law_cells_bit_so : Ns N__law_cells S__law_cells T__law_cells 4 "bit_so" := ns_by (by decide +kernel)
theorem s__law_cells_k : Ns N__law_cells S__law_cells T__law_cells 3 "k" := ns_by (by decide +kernel)
theorem v__law_cells_at_so : Nm N__law_cells S__law_cells 5 "at_so" := nm_by (by decide +kernel)
theorem v__law_cells_cells_so : Nm N__law_cells S__law_cells 2 "cells_so" := nm_by (by decide +kernel)
theorem v__law_cells_bit_so : Nm N__law_cells S__law_cells 4 "bit_so" := nm_by (by decide +kernel)
theorem v__law_cells_k : Nm N__law_cells S__law_cells 3 "k" := nm_by (by decide +kernel)
theorem g__law_cells_int : glS S__law_cells "int" = true := by decide +kernel
theorem s__law_cells_at_so : Ns N__law_cells S__law_cells T__law_cells 5 "at_so" := ns_by (by decide +kernel)
abbrev Γ__law_cells : Gm := ⟨N__law_cells, S__law_cells, T__law_cells, BI, [], []⟩
theorem J__law_cells : JSs (Γ__law_cells) (defBody x__law_cells) (B__law_cells) := (jss_cons (k_own s__law_cells_cells_so (jo_or (k_o1 ⟨g__law_cells_list, t_list⟩ bo_list (js_v (je_sl (k_mv v__law_cells_script) jp_no (jp_of (k_mv v__law_cells_most_so)))) rfl) (jo_lst (ja_cons je_int ja_nil))) rfl) (jss_cons (jst_for (k_enum ⟨g__law_cells_enumerate, t_enumerate⟩ (je_sl (k_mv v__law_cells_script) (jp_of (k_mv v__law_cells_most_so)) (jp_of je_int))) (jg_tup (jgs_cons (k_name s__law_cells_k) (jgs_cons (k_name s__law_cells_bit_so) jgs_nil (fun _ => rfl)) (fun _ => rfl)) (fun _ => rfl) (fun _ => rfl)) (jss_cons (k_set s__law_cells_at_so (je_op p_mod (k_b1 ⟨g__law_cells_int, t_int⟩ b_int (k_l v__law_cells_k) rfl) (k_mv v__law_cells_most_so)) (fun _ => rfl)) (jss_cons (k_put v__law_cells_cells_so (k_mv v__law_cells_at_so) (je_op p_add (k_ixN v__law_cells_cells_so (k_mv v__law_cells_at_so) (fun _ _ => rfl)) (je_op p_mul (k_mv v__law_cells_bit_so) (je_op p_add (k_mv v__law_cells_k) je_int))) (fun _ _ => rfl) (fun _ => rfl) (fun _ => rfl) (fun _ => rfl)) jss_nil)) (fun _ _ => rfl)) (jss_cons (k_retL v__law_cells_cells_so) jss_nil)))
/-! _law_of -/
abbrev x__law_of : Stmt := topS 41
abbrev S__law_of : Scope := defScope x__law_of
def N__law_of : List Str := ["tin", "goods_so"]
def T__law_of : List Str := ["tin", "goods_so"]
theorem sc__law_of : FnScope N__law_of ["tin", "goods_so"] S__law_of := ⟨rfl, rfl, rfl, by decide +kernel, rfl, by decide +kernel, by decide +kernel⟩
theorem v__law_of_goods_so : Nm N__law_of S__law_of 1 "goods_so" := nm_by (by decide +kernel)
theorem g__law_of_len : glS S__law_of "len" = true := by decide +kernel
theorem v__law_of_tin : Nm N__law_of S__law_of 0 "tin" := nm_by (by decide +kernel)
theorem g__law_of__law_take : glS S__law_of "_law_take" = true := by decide +kernel
abbrev Γ__law_of (c__law_take : Fn) : Gm := ⟨N__law_of, S__law_of, T__law_of, BI, [("_law_take", c__law_take)], []⟩
theorem J__law_of (c__law_take : Fn) : JSs (Γ__law_of c__law_take) (defBody x__law_of) (B__law_of c__law_take) := (jss_cons (jst_ret (k_ixN v__law_of_goods_so (k_call ⟨g__law_of__law_take, rfl, rfl⟩ (k_gs v__law_of_tin (jg_v (k_b1 ⟨g__law_of_len, t_len⟩ b_len (k_l v__law_of_goods_so) rfl) jg_nil)) (fun _ => rfl) (fun _ => rfl)) (fun _ _ => rfl))) jss_nil)
/-! _law_pick -/
abbrev x__law_pick : Stmt := topS 42
abbrev S__law_pick : Scope := defScope x__law_pick
def N__law_pick : List Str := ["tin", "goods_so", "count_so", "pool_so", "found", "lap"]
def T__law_pick : List Str := ["tin", "goods_so", "count_so", "pool_so", "found", "lap"]
theorem sc__law_pick : FnScope N__law_pick ["tin", "goods_so", "count_so"] S__law_pick := ⟨rfl, rfl, rfl, by decide +kernel, rfl, by decide +kernel, by decide +kernel⟩
theorem v__law_pick_goods_so : Nm N__law_pick S__law_pick 1 "goods_so" := nm_by (by decide +kernel)
theorem g__law_pick_list : glS S__law_pick "list" = true := by decide +kernel
theorem s__law_pick_pool_so : Ns N__law_pick S__law_pick T__law_pick 3 "pool_so" := ns_by (by decide +kernel)
theorem s__law_pick_found : Ns N__law_pick S__law_pick T__law_pick 4 "found" := ns_by (by decide +kernel)
theorem l__law_pick_pool_so : S__law_pick.names.lookup ("pool_so" : Str) = some .local := by decide +kernel
theorem l__law_pick_found : S__law_pick.names.lookup ("found" : Str) = some .local := by decide +kernel
theorem v__law_pick_count_so : Nm N__law_pick S__law_pick 2 "count_so" := nm_by (by decide +kernel)
theorem g__law_pick_int : glS S__law_pick "int" = true := by decide +kernel
theorem v__law_pick_pool_so : Nm N__law_pick S__law_pick 3 "pool_so" := nm_by (by decide +kernel)
theorem g__law_pick_len : glS S__law_pick "len" = true := by decide +kernel
theorem g__law_pick_min : glS S__law_pick "min" = true := by decide +kernel
theorem g__law_pick_range : glS S__law_pick "range" = true := by decide +kernel
theorem s__law_pick_lap : Ns N__law_pick S__law_pick T__law_pick 5 "lap" := ns_by (by decide +kernel)
theorem v__law_pick_found : Nm N__law_pick S__law_pick 4 "found" := nm_by (by decide +kernel)
theorem v__law_pick_tin : Nm N__law_pick S__law_pick 0 "tin" := nm_by (by decide +kernel)
theorem g__law_pick__law_take : glS S__law_pick "_law_take" = true := by decide +kernel
abbrev Γ__law_pick (c__law_take : Fn) : Gm := ⟨N__law_pick, S__law_pick, T__law_pick, BI, [("_law_take", c__law_take)], []⟩
theorem J__law_pick (c__law_take : Fn) : JSs (Γ__law_pick c__law_take) (defBody x__law_pick) (B__law_pick c__law_take) := (jss_cons (k_par s__law_pick_pool_so s__law_pick_found (jg_o (k_o1 ⟨g__law_pick_list, t_list⟩ bo_list (k_l v__law_pick_goods_so) rfl) (jg_o (jo_lst ja_nil) jg_nil)) (by decide) l__law_pick_pool_so l__law_pick_found rfl (fun _ => rfl)) (jss_cons (jst_for (k_range1 ⟨g__law_pick_range, t_range⟩ (k_b2 ⟨g__law_pick_min, t_min⟩ b_min2 (k_b1 ⟨g__law_pick_int, t_int⟩ b_int (k_l v__law_pick_count_so) rfl) (k_b1 ⟨g__law_pick_len, t_len⟩ b_len (k_l v__law_pick_pool_so) rfl) rfl)) (k_name s__law_pick_lap) (jss_cons (jst_ex (k_app v__law_pick_found (k_popA v__law_pick_pool_so (k_call ⟨g__law_pick__law_take, rfl, rfl⟩ (k_gs v__law_pick_tin (jg_v (k_b1 ⟨g__law_pick_len, t_len⟩ b_len (k_l v__law_pick_pool_so) rfl) jg_nil)) (fun _ => rfl) (fun _ => rfl)) (fun _ => rfl) (fun _ => rfl) rfl) (fun _ => rfl) (fun _ => rfl) rfl) (fun _ => rfl)) jss_nil) (fun _ _ => rfl)) (jss_cons (k_retL v__law_pick_found) jss_nil)))
/-! _law_lists -/
abbrev x__law_lists : Stmt := topS 43
abbrev S__law_lists : Scope := defScope x__law_lists
def N__law_lists : List Str := ["matter", "bit"]
def T__law_lists : List Str := ["matter"]
theorem sc__law_lists : FnScope N__law_lists ["matter"] S__law_lists := ⟨rfl, rfl, rfl, by decide +kernel, rfl, by decide +kernel, by decide +kernel⟩
theorem v__law_lists_matter : Nm N__law_lists S__law_lists 0 "matter" := nm_by (by decide +kernel)
theorem g__law_lists_isinstance : glS S__law_lists "isinstance" = true := by decide +kernel
theorem g__law_lists_list : glS S__law_lists "list" = true := by decide +kernel
theorem g__law_lists_tuple : glS S__law_lists "tuple" = true := by decide +kernel
abbrev Γ__law_lists (c__law_lists : Fn) : Gm := ⟨N__law_lists, S__law_lists, T__law_lists, BI, [("_law_lists", c__law_lists)], []⟩
theorem J__law_lists (c__law_lists : Fn) : JSs (Γ__law_lists c__law_lists) (defBody x__law_lists) (B__law_lists c__law_lists) := (jss_cons (jst_ret (je_if (jt_val (k_isi2 ⟨g__law_lists_isinstance, t_isinstance⟩ (k_mv v__law_lists_matter) ⟨g__law_lists_list, t_list⟩ ⟨g__law_lists_tuple, t_tuple⟩ (by decide) (by decide)) (fun _ _ => rfl)) (je_fz (k_lc ["bit"] [1] (lk_by (N := N__law_lists) (sc := S__law_lists) (own := [("bit", 1)]) (ts := [1]) (by decide +kernel)) rfl rfl (ji_val (k_mv v__law_lists_matter)) (k_name (ns_by (N := N__law_lists) (sc := (relS _ S__law_lists)) (st := ["bit"]) (by decide +kernel))) jts_nil (k_call ⟨(by decide +kernel : glS (relS _ S__law_lists) "_law_lists" = true), rfl, rfl⟩ (jg_v (k_mv (nm_by (N := N__law_lists) (sc := (relS _ S__law_lists)) (by decide +kernel))) jg_nil) (fun _ => rfl) (fun _ => rfl)) (fun _ _ => rfl))) (k_mv v__law_lists_matter))) jss_nil)
/-! _law_same -/
abbrev x__law_same : Stmt := topS 44
abbrev S__law_same : Scope := defScope x__law_same
def N__law_same : List Str := ["got", "due", "mine", "its"]
def T__law_same : List Str := ["got", "due"]
theorem sc__law_same : FnScope N__law_same ["got", "due"] S__law_same := ⟨rfl, rfl, rfl, by decide +kernel, rfl, by decide +kernel, by decide +kernel⟩
theorem v__law_same_due : Nm N__law_same S__law_same 1 "due" := nm_by (by decide +kernel)
theorem g__law_same_isinstance : glS S__law_same "isinstance" = true := by decide +kernel
theorem g__law_same_list : glS S__law_same "list" = true := by decide +kernel
theorem g__law_same_tuple : glS S__law_same "tuple" = true := by decide +kernel
theorem v__law_same_got : Nm N__law_same S__law_same 0 "got" := nm_by (by decide +kernel)
theorem g__law_same_len : glS S__law_same "len" = true := by decide +kernel
theorem g__law_same_zip : glS S__law_same "zip" = true := by decide +kernel
theorem g__law_same_all : glS S__law_same "all" = true := by decide +kernel
theorem g__law_same_bool : glS S__law_same "bool" = true := by decide +kernel
theorem g__law_same_str : glS S__law_same "str" = true := by decide +kernel
theorem g__law_same_int : glS S__law_same "int" = true := by decide +kernel
abbrev Γ__law_same (c__law_same : Fn) : Gm := ⟨N__law_same, S__law_same, T__law_same, BI, [("_law_same", c__law_same)], []⟩
theorem J__law_same_0 (c__law_same : Fn) : JSt (Γ__law_same c__law_same) ((defBody x__law_same).getD 0 (.Pass ⟨0, 0, 0, 0⟩)) (B__law_same_0 c__law_same) := (jst_if (jt_val (k_isi2 ⟨g__law_same_isinstance, t_isinstance⟩ (k_mv v__law_same_due) ⟨g__law_same_list, t_list⟩ ⟨g__law_same_tuple, t_tuple⟩ (by decide) (by decide)) (fun _ _ => rfl)) (jss_cons (jst_if (JW.jt (jw_or (jt_cmp p_ne (k_isi ⟨g__law_same_isinstance, t_isinstance⟩ (k_mv v__law_same_got) ⟨g__law_same_list, t_list⟩ (by decide)) (k_isi ⟨g__law_same_isinstance, t_isinstance⟩ (k_mv v__law_same_due) ⟨g__law_same_list, t_list⟩ (by decide)) rfl) (jw_or1 (jt_cmp p_ne (k_isi ⟨g__law_same_isinstance, t_isinstance⟩ (k_mv v__law_same_got) ⟨g__law_same_tuple, t_tuple⟩ (by decide)) (k_isi ⟨g__law_same_isinstance, t_isinstance⟩ (k_mv v__law_same_due) ⟨g__law_same_tuple, t_tuple⟩ (by decide)) rfl)))) (jss_cons (jst_ret je_bl) jss_nil) jss_nil) (jss_cons (jst_ret (je_and (je_cmp p_eq (k_b1 ⟨g__law_same_len, t_len⟩ b_len (k_l v__law_same_got) rfl) (k_b1 ⟨g__law_same_len, t_len⟩ b_len (k_l v__law_same_due) rfl) rfl) (je_one (k_b1 ⟨g__law_same_all, t_all⟩ b_all (js_o (k_lc ["mine", "its"] [2, 3] (lk_by (N := N__law_same) (sc := S__law_same) (own := [("mine", 2), ("its", 3)]) (ts := [2, 3]) (by decide +kernel)) rfl rfl (k_zip ⟨g__law_same_zip, t_zip⟩ (k_mv v__law_same_got) (k_mv v__law_same_due)) (jg_tup (jgs_cons (k_name (ns_by (N := N__law_same) (sc := (relS _ S__law_same)) (st := ["mine", "its"]) (by decide +kernel))) (jgs_cons (k_name (ns_by (N := N__law_same) (sc := (relS _ S__law_same)) (st := ["mine", "its"]) (by decide +kernel))) jgs_nil (fun _ => rfl)) (fun _ => rfl)) (fun _ => rfl) (fun _ => rfl)) jts_nil (k_call ⟨(by decide +kernel : glS (relS _ S__law_same) "_law_same" = true), rfl, rfl⟩ (jg_v (k_mv (nm_by (N := N__law_same) (sc := (relS _ S__law_same)) (by decide +kernel))) (jg_v (k_mv (nm_by (N := N__law_same) (sc := (relS _ S__law_same)) (by decide +kernel))) jg_nil)) (fun _ => rfl) (fun _ => rfl)) (fun _ _ => rfl))) rfl)))) jss_nil)) jss_nil)
theorem J__law_same_1 (c__law_same : Fn) : JSt (Γ__law_same c__law_same) ((defBody x__law_same).getD 1 (.Pass ⟨0, 0, 0, 0⟩)) (B__law_same_1 c__law_same) := (jst_if (jt_cmp p_is (k_mv v__law_same_due) je_non rfl) (jss_cons (jst_ret (je_cmp p_is (k_mv v__law_same_got) je_non rfl)) jss_nil) jss_nil)
theorem J__law_same_2 (c__law_same : Fn) : JSt (Γ__law_same c__law_same) ((defBody x__law_same).getD 2 (.Pass ⟨0, 0, 0, 0⟩)) (B__law_same_2 c__law_same) := (jst_if (jt_val (k_isi2 ⟨g__law_same_isinstance, t_isinstance⟩ (k_mv v__law_same_due) ⟨g__law_same_bool, t_bool⟩ ⟨g__law_same_str, t_str⟩ (by decide) (by decide)) (fun _ _ => rfl)) (jss_cons (jst_ret (je_and (je_cmp p_eq (k_isi ⟨g__law_same_isinstance, t_isinstance⟩ (k_mv v__law_same_got) ⟨g__law_same_bool, t_bool⟩ (by decide)) (k_isi ⟨g__law_same_isinstance, t_isinstance⟩ (k_mv v__law_same_due) ⟨g__law_same_bool, t_bool⟩ (by decide)) rfl) (je_and (je_cmp p_eq (k_isi ⟨g__law_same_isinstance, t_isinstance⟩ (k_mv v__law_same_got) ⟨g__law_same_str, t_str⟩ (by decide)) (k_isi ⟨g__law_same_isinstance, t_isinstance⟩ (k_mv v__law_same_due) ⟨g__law_same_str, t_str⟩ (by decide)) rfl) (je_one (je_cmp p_eq (k_mv v__law_same_got) (k_mv v__law_same_due) rfl))))) jss_nil) jss_nil)
theorem J__law_same_3 (c__law_same : Fn) : JSt (Γ__law_same c__law_same) ((defBody x__law_same).getD 3 (.Pass ⟨0, 0, 0, 0⟩)) (B__law_same_3 c__law_same) := (jst_ret (je_and (k_isi ⟨g__law_same_isinstance, t_isinstance⟩ (k_mv v__law_same_got) ⟨g__law_same_int, t_int⟩ (by decide)) (je_and (je_not (k_isi ⟨g__law_same_isinstance, t_isinstance⟩ (k_mv v__law_same_got) ⟨g__law_same_bool, t_bool⟩ (by decide))) (je_one (je_cmp p_eq (k_mv v__law_same_got) (k_mv v__law_same_due) rfl)))))
theorem J__law_same (c__law_same : Fn) : JSs (Γ__law_same c__law_same) (defBody x__law_same) (B__law_same c__law_same) := (jss_cons (J__law_same_0 c__law_same) (jss_cons (J__law_same_1 c__law_same) (jss_cons (J__law_same_2 c__law_same) (jss_cons (J__law_same_3 c__law_same) jss_nil))))
/-! _law_letters -/
abbrev x__law_letters : Stmt := topS 45
abbrev S__law_letters : Scope := defScope x__law_letters
def N__law_letters : List Str := ["tin", "many_so"]
def T__law_letters : List Str := ["tin", "many_so"]
theorem sc__law_letters : FnScope N__law_letters ["tin", "many_so"] S__law_letters := ⟨rfl, rfl, rfl, by decide +kernel, rfl, by decide +kernel, by decide +kernel⟩
theorem v__law_letters_many_so : Nm N__law_letters S__law_letters 1 "many_so" := nm_by (by decide +kernel)
theorem g__law_letters_list : glS S__law_letters "list" = true := by decide +kernel
theorem v__law_letters_tin : Nm N__law_letters S__law_letters 0 "tin" := nm_by (by decide +kernel)
theorem g__law_letters__law_pick : glS S__law_letters "_law_pick" = true := by decide +kernel
theorem g__law_letters_sorted : glS S__law_letters "sorted" = true := by decide +kernel
abbrev Γ__law_letters (c__law_pick : Fn) : Gm := ⟨N__law_letters, S__law_letters, T__law_letters, BI, [("_law_pick", c__law_pick)], []⟩
theorem J__law_letters (c__law_pick : Fn) : JSs (Γ__law_letters c__law_pick) (defBody x__law_letters) (B__law_letters c__law_pick) := (jss_cons (jst_ret (je_m1 m_join PySem.F.slot_str_join PySem.F.type_str_join (je_str (l := []) (by decide +kernel) (by decide)) (js_o (k_o1 ⟨g__law_letters_sorted, t_sorted⟩ bo_sorted (js_o (k_callO ⟨g__law_letters__law_pick, rfl, rfl⟩ (k_gs v__law_letters_tin (jg_v (je_fz (k_o1 ⟨g__law_letters_list, t_list⟩ bo_list (js_v (je_str (l := [97, 98, 99, 100, 101, 102, 103, 104]) (by decide +kernel) (by decide))) rfl)) (jg_v (k_mv v__law_letters_many_so) jg_nil))) (fun _ => rfl) (fun _ => rfl))) rfl)) (fun _ => rfl) rfl)) jss_nil)
/-! _law_plan -/
abbrev x__law_plan : Stmt := topS 46
abbrev S__law_plan : Scope := defScope x__law_plan
def N__law_plan : List Str := ["tin", "letters_so", "long_so", "lap"]
def T__law_plan : List Str := ["tin", "letters_so", "long_so"]
theorem sc__law_plan : FnScope N__law_plan ["tin", "letters_so", "long_so"] S__law_plan := ⟨rfl, rfl, rfl, by decide +kernel, rfl, by decide +kernel, by decide +kernel⟩
theorem v__law_plan_letters_so : Nm N__law_plan S__law_plan 1 "letters_so" := nm_by (by decide +kernel)
theorem v__law_plan_long_so : Nm N__law_plan S__law_plan 2 "long_so" := nm_by (by decide +kernel)
theorem v__law_plan_tin : Nm N__law_plan S__law_plan 0 "tin" := nm_by (by decide +kernel)
theorem g__law_plan__law_take : glS S__law_plan "_law_take" = true := by decide +kernel
theorem g__law_plan_range : glS S__law_plan "range" = true := by decide +kernel
abbrev Γ__law_plan (c__law_take c__law_of : Fn) : Gm := ⟨N__law_plan, S__law_plan, T__law_plan, BI, [("_law_take", c__law_take), ("_law_of", c__law_of)], []⟩
theorem J__law_plan (c__law_take c__law_of : Fn) : JSs (Γ__law_plan c__law_take c__law_of) (defBody x__law_plan) (B__law_plan c__law_take c__law_of) := (jss_cons (jst_ret (je_if (jt_cmp p_ne (k_mv v__law_plan_letters_so) (je_str (l := []) (by decide +kernel) (by decide)) rfl) (je_m1 m_join PySem.F.slot_str_join PySem.F.type_str_join (je_str (l := []) (by decide +kernel) (by decide)) (js_o (k_lc ["lap"] [3] (lk_by (N := N__law_plan) (sc := S__law_plan) (own := [("lap", 3)]) (ts := [3]) (by decide +kernel)) rfl rfl (k_range1 ⟨g__law_plan_range, t_range⟩ (k_call ⟨g__law_plan__law_take, rfl, rfl⟩ (k_gs v__law_plan_tin (jg_v (je_op p_add (k_mv v__law_plan_long_so) je_int) jg_nil)) (fun _ => rfl) (fun _ => rfl))) (k_name (ns_by (N := N__law_plan) (sc := (relS _ S__law_plan)) (st := ["lap"]) (by decide +kernel))) jts_nil (k_call ⟨(by decide +kernel : glS (relS _ S__law_plan) "_law_of" = true), rfl, rfl⟩ (k_gs (nm_by (N := N__law_plan) (sc := (relS _ S__law_plan)) (by decide +kernel)) (jg_v (je_fz (k_o1 ⟨(by decide +kernel : glS (relS _ S__law_plan) "list" = true), t_list⟩ bo_list (k_l (nm_by (N := N__law_plan) (sc := (relS _ S__law_plan)) (by decide +kernel))) rfl)) jg_nil)) (fun _ => rfl) (fun _ => rfl)) (fun _ _ => rfl))) (fun _ => rfl) rfl) (je_str (l := []) (by decide +kernel) (by decide)))) jss_nil)
/-! _law_last_new -/
abbrev x__law_last_new : Stmt := topS 47
abbrev S__law_last_new : Scope := defScope x__law_last_new
def N__law_last_new : List Str := ["plan_so", "spot_so", "own"]
def T__law_last_new : List Str := ["plan_so", "spot_so"]
theorem sc__law_last_new : FnScope N__law_last_new ["plan_so"] S__law_last_new := ⟨rfl, rfl, rfl, by decide +kernel, rfl, by decide +kernel, by decide +kernel⟩
theorem v__law_last_new_plan_so : Nm N__law_last_new S__law_last_new 0 "plan_so" := nm_by (by decide +kernel)
theorem g__law_last_new_sorted : glS S__law_last_new "sorted" = true := by decide +kernel
theorem g__law_last_new_set : glS S__law_last_new "set" = true := by decide +kernel
theorem g__law_last_new_max : glS S__law_last_new "max" = true := by decide +kernel
theorem s__law_last_new_spot_so : Ns N__law_last_new S__law_last_new T__law_last_new 1 "spot_so" := ns_by (by decide +kernel)
theorem v__law_last_new_spot_so : Nm N__law_last_new S__law_last_new 1 "spot_so" := nm_by (by decide +kernel)
abbrev Γ__law_last_new : Gm := ⟨N__law_last_new, S__law_last_new, T__law_last_new, BI, [], []⟩
theorem J__law_last_new : JSs (Γ__law_last_new) (defBody x__law_last_new) (B__law_last_new) := (jss_cons (k_set s__law_last_new_spot_so (k_b1 ⟨g__law_last_new_max, t_max⟩ b_max (js_o (k_lc ["own"] [2] (lk_by (N := N__law_last_new) (sc := S__law_last_new) (own := [("own", 2)]) (ts := [2]) (by decide +kernel)) rfl rfl (ji_val (je_fz (k_ss ⟨g__law_last_new_sorted, t_sorted⟩ ⟨g__law_last_new_set, t_set⟩ (k_mv v__law_last_new_plan_so)))) (k_name (ns_by (N := N__law_last_new) (sc := (relS _ S__law_last_new)) (st := ["own"]) (by decide +kernel))) jts_nil (je_m1 m_find PySem.F.slot_str_find PySem.F.type_str_find (k_mv (nm_by (N := N__law_last_new) (sc := (relS _ S__law_last_new)) (by decide +kernel))) (k_l (nm_by (N := N__law_last_new) (sc := (relS _ S__law_last_new)) (by decide +kernel))) (fun _ => rfl) rfl) (fun _ _ => rfl))) rfl) (fun _ => rfl)) (jss_cons (jst_ret (je_tup (ja_cons (je_sl (k_mv v__law_last_new_plan_so) jp_no (jp_of (k_mv v__law_last_new_spot_so))) (ja_cons (k_ixN v__law_last_new_plan_so (k_mv v__law_last_new_spot_so) (fun _ _ => rfl)) ja_nil)))) jss_nil))
/-! _law_form -/
abbrev x__law_form : Stmt := topS 48
abbrev S__law_form : Scope := defScope x__law_form
def N__law_form : List Str := ["plan_so", "near", "far"]
def T__law_form : List Str := ["plan_so", "near", "far"]
theorem sc__law_form : FnScope N__law_form ["plan_so"] S__law_form := ⟨rfl, rfl, rfl, by decide +kernel, rfl, by decide +kernel, by decide +kernel⟩
theorem v__law_form_plan_so : Nm N__law_form S__law_form 0 "plan_so" := nm_by (by decide +kernel)
theorem g__law_form__law_last_new : glS S__law_form "_law_last_new" = true := by decide +kernel
theorem s__law_form_near : Ns N__law_form S__law_form T__law_form 1 "near" := ns_by (by decide +kernel)
theorem s__law_form_far : Ns N__law_form S__law_form T__law_form 2 "far" := ns_by (by decide +kernel)
theorem l__law_form_near : S__law_form.names.lookup ("near" : Str) = some .local := by decide +kernel
theorem l__law_form_far : S__law_form.names.lookup ("far" : Str) = some .local := by decide +kernel
theorem v__law_form_far : Nm N__law_form S__law_form 2 "far" := nm_by (by decide +kernel)
theorem g__law_form__law_form : glS S__law_form "_law_form" = true := by decide +kernel
theorem v__law_form_near : Nm N__law_form S__law_form 1 "near" := nm_by (by decide +kernel)
abbrev Γ__law_form (c__law_last_new c__law_form : Fn) : Gm := ⟨N__law_form, S__law_form, T__law_form, BI, [("_law_last_new", c__law_last_new), ("_law_form", c__law_form)], []⟩
theorem J__law_form (c__law_last_new c__law_form : Fn) : JSs (Γ__law_form c__law_last_new c__law_form) (defBody x__law_form) (B__law_form c__law_last_new c__law_form) := (jss_cons (jst_if (jt_cmp p_eq (k_mv v__law_form_plan_so) (je_str (l := []) (by decide +kernel) (by decide)) rfl) (jss_cons (jst_ret (je_tup ja_nil)) jss_nil) jss_nil) (jss_cons (k_par s__law_form_near s__law_form_far (jg_v (k_call ⟨g__law_form__law_last_new, rfl, rfl⟩ (jg_v (k_mv v__law_form_plan_so) jg_nil) (fun _ => rfl) (fun _ => rfl)) (jg_v (k_call ⟨g__law_form__law_last_new, rfl, rfl⟩ (jg_v (je_rev (k_mv v__law_form_plan_so)) jg_nil) (fun _ => rfl) (fun _ => rfl)) jg_nil)) (by decide) l__law_form_near l__law_form_far rfl (fun _ => rfl)) (jss_cons (jst_ret (je_tup (ja_cons (k_call ⟨g__law_form__law_form, rfl, rfl⟩ (jg_v (k_ixN v__law_form_near je_int (fun _ _ => rfl)) jg_nil) (fun _ => rfl) (fun _ => rfl)) (ja_cons (k_ixN v__law_form_near je_int (fun _ _ => rfl)) (ja_cons (k_ixN v__law_form_far je_int (fun _ _ => rfl)) (ja_cons (k_call ⟨g__law_form__law_form, rfl, rfl⟩ (jg_v (je_rev (k_ixN v__law_form_far je_int (fun _ _ => rfl))) jg_nil) (fun _ => rfl) (fun _ => rfl)) ja_nil)))))) jss_nil)))
/-! _law_book -/
abbrev x__law_book : Stmt := topS 49
abbrev S__law_book : Scope := defScope x__law_book
def N__law_book : List Str := ["tin", "letters_so", "found", "k", "parts_so", "lap"]
def T__law_book : List Str := ["tin", "letters_so", "found", "k", "parts_so"]
theorem sc__law_book : FnScope N__law_book ["tin", "letters_so"] S__law_book := ⟨rfl, rfl, rfl, by decide +kernel, rfl, by decide +kernel, by decide +kernel⟩
theorem s__law_book_found : Ns N__law_book S__law_book T__law_book 2 "found" := ns_by (by decide +kernel)
theorem v__law_book_tin : Nm N__law_book S__law_book 0 "tin" := nm_by (by decide +kernel)
theorem g__law_book__law_take : glS S__law_book "_law_take" = true := by decide +kernel
theorem g__law_book_range : glS S__law_book "range" = true := by decide +kernel
theorem s__law_book_k : Ns N__law_book S__law_book T__law_book 3 "k" := ns_by (by decide +kernel)
theorem v__law_book_found : Nm N__law_book S__law_book 2 "found" := nm_by (by decide +kernel)
theorem v__law_book_parts_so : Nm N__law_book S__law_book 4 "parts_so" := nm_by (by decide +kernel)
theorem g__law_book_tuple : glS S__law_book "tuple" = true := by decide +kernel
theorem s__law_book_parts_so : Ns N__law_book S__law_book T__law_book 4 "parts_so" := ns_by (by decide +kernel)
theorem l__law_book_parts_so : S__law_book.names.lookup ("parts_so" : Str) = some .local := by decide +kernel
abbrev Γ__law_book (c__law_take c__law_plan : Fn) : Gm := ⟨N__law_book, S__law_book, T__law_book, BI, [("_law_take", c__law_take), ("_law_plan", c__law_plan)], []⟩
theorem J__law_book (c__law_take c__law_plan : Fn) : JSs (Γ__law_book c__law_take c__law_plan) (defBody x__law_book) (B__law_book c__law_take c__law_plan) := (jss_cons (k_own s__law_book_found (jo_lst ja_nil) rfl) (jss_cons (jst_for (k_range1 ⟨g__law_book_range, t_range⟩ (je_op p_add je_int (k_call ⟨g__law_book__law_take, rfl, rfl⟩ (k_gs v__law_book_tin (jg_v je_int jg_nil)) (fun _ => rfl) (fun _ => rfl)))) (k_name s__law_book_k) (jss_cons (k_slc ["lap"] [5] s__law_book_parts_so l__law_book_parts_so (lk_by (N := N__law_book) (sc := S__law_book) (own := [("lap", 5)]) (ts := [5]) (by decide +kernel)) rfl rfl (k_range1 ⟨g__law_book_range, t_range⟩ (je_op p_add je_int (k_call ⟨g__law_book__law_take, rfl, rfl⟩ (k_gs v__law_book_tin (jg_v je_int jg_nil)) (fun _ => rfl) (fun _ => rfl)))) (k_name (ns_by (N := N__law_book) (sc := (relS _ S__law_book)) (st := ["lap"]) (by decide +kernel))) jts_nil (je_if (JW.jt (jw_and (jt_cmp p_gt (k_mv (nm_by (N := N__law_book) (sc := (relS _ S__law_book)) (by decide +kernel))) je_int rfl) (jw_and1 (jt_cmp p_eq (k_call ⟨(by decide +kernel : glS (relS _ S__law_book) "_law_take" = true), rfl, rfl⟩ (k_gs (nm_by (N := N__law_book) (sc := (relS _ S__law_book)) (by decide +kernel)) (jg_v je_int jg_nil)) (fun _ => rfl) (fun _ => rfl)) je_int rfl)))) (k_call ⟨(by decide +kernel : glS (relS _ S__law_book) "_law_take" = true), rfl, rfl⟩ (k_gs (nm_by (N := N__law_book) (sc := (relS _ S__law_book)) (by decide +kernel)) (jg_v (k_mv (nm_by (N := N__law_book) (sc := (relS _ S__law_book)) (by decide +kernel))) jg_nil)) (fun _ => rfl) (fun _ => rfl)) (k_call ⟨(by decide +kernel : glS (relS _ S__law_book) "_law_plan" = true), rfl, rfl⟩ (k_gs (nm_by (N := N__law_book) (sc := (relS _ S__law_book)) (by decide +kernel)) (jg_v (k_mv (nm_by (N := N__law_book) (sc := (relS _ S__law_book)) (by decide +kernel))) (jg_v je_int jg_nil))) (fun _ => rfl) (fun _ => rfl))) (fun _ _ => rfl) rfl) (jss_cons (jst_ex (k_app v__law_book_found (k_b1 ⟨g__law_book_tuple, t_tuple⟩ b_tuple (k_l v__law_book_parts_so) rfl) (fun _ => rfl) (fun _ => rfl) rfl) (fun _ => rfl)) jss_nil)) (fun _ _ => rfl)) (jss_cons (jst_ret (k_b1 ⟨g__law_book_tuple, t_tuple⟩ b_tuple (k_l v__law_book_found) rfl)) jss_nil)))
/-! _law_told -/
abbrev x__law_told : Stmt := topS 50
abbrev S__law_told : Scope := defScope x__law_told
def N__law_told : List Str := ["book_so", "piece_so", "own"]
def T__law_told : List Str := ["book_so", "piece_so"]
theorem sc__law_told : FnScope N__law_told ["book_so", "piece_so"] S__law_told := ⟨rfl, rfl, rfl, by decide +kernel, rfl, by decide +kernel, by decide +kernel⟩
theorem v__law_told_piece_so : Nm N__law_told S__law_told 1 "piece_so" := nm_by (by decide +kernel)
theorem v__law_told_book_so : Nm N__law_told S__law_told 0 "book_so" := nm_by (by decide +kernel)
abbrev Γ__law_told (c__law_told : Fn) : Gm := ⟨N__law_told, S__law_told, T__law_told, BI, [("_law_told", c__law_told)], []⟩
theorem J__law_told (c__law_told : Fn) : JSs (Γ__law_told c__law_told) (defBody x__law_told) (B__law_told c__law_told) := (jss_cons (jst_ret (je_m1 m_join PySem.F.slot_str_join PySem.F.type_str_join (je_str (l := []) (by decide +kernel) (by decide)) (js_o (k_lc ["own"] [2] (lk_by (N := N__law_told) (sc := S__law_told) (own := [("own", 2)]) (ts := [2]) (by decide +kernel)) rfl rfl (ji_val (k_ixN v__law_told_book_so (k_mv v__law_told_piece_so) (fun _ _ => rfl))) (k_name (ns_by (N := N__law_told) (sc := (relS _ S__law_told)) (st := ["own"]) (by decide +kernel))) jts_nil (je_if (jt_val (k_isi ⟨(by decide +kernel : glS (relS _ S__law_told) "isinstance" = true), t_isinstance⟩ (k_mv (nm_by (N := N__law_told) (sc := (relS _ S__law_told)) (by decide +kernel))) ⟨(by decide +kernel : glS (relS _ S__law_told) "int" = true), t_int⟩ (by decide)) (fun _ _ => rfl)) (k_call ⟨(by decide +kernel : glS (relS _ S__law_told) "_law_told" = true), rfl, rfl⟩ (jg_v (k_mv (nm_by (N := N__law_told) (sc := (relS _ S__law_told)) (by decide +kernel))) (jg_v (k_mv (nm_by (N := N__law_told) (sc := (relS _ S__law_told)) (by decide +kernel))) jg_nil)) (fun _ => rfl) (fun _ => rfl)) (k_mv (nm_by (N := N__law_told) (sc := (relS _ S__law_told)) (by decide +kernel)))) (fun _ _ => rfl))) (fun _ => rfl) rfl)) jss_nil)
/-! _law_right -/
abbrev x__law_right : Stmt := topS 51
abbrev S__law_right : Scope := defScope x__law_right
def N__law_right : List Str := ["tin", "letters_so", "book_so", "top_so", "plan_so", "near", "many_so", "k", "tall_so", "whole_so", "times_so", "lap", "own", "got", "spot_so", "place_so", "first_so", "last_so", "row_so", "i", "j", "both_so", "back_so", "after_so", "names_so", "at_so", "due", "piece_so", "its"]
def T__law_right : List Str := ["tin", "letters_so", "book_so", "top_so", "plan_so", "near", "many_so", "k", "tall_so", "whole_so", "times_so", "lap", "own", "got", "spot_so", "place_so", "first_so", "last_so", "row_so", "i", "j", "both_so", "back_so", "after_so", "names_so", "at_so", "due"]
theorem sc__law_right : FnScope N__law_right ["tin"] S__law_right := ⟨rfl, rfl, rfl, by decide +kernel, rfl, by decide +kernel, by decide +kernel⟩
theorem v__law_right_tin : Nm N__law_right S__law_right 0 "tin" := nm_by (by decide +kernel)
theorem g__law_right__law_take : glS S__law_right "_law_take" = true := by decide +kernel
theorem g__law_right__law_letters : glS S__law_right "_law_letters" = true := by decide +kernel
theorem s__law_right_letters_so : Ns N__law_right S__law_right T__law_right 1 "letters_so" := ns_by (by decide +kernel)
theorem v__law_right_letters_so : Nm N__law_right S__law_right 1 "letters_so" := nm_by (by decide +kernel)
theorem g__law_right__law_book : glS S__law_right "_law_book" = true := by decide +kernel
theorem s__law_right_book_so : Ns N__law_right S__law_right T__law_right 2 "book_so" := ns_by (by decide +kernel)
theorem v__law_right_book_so : Nm N__law_right S__law_right 2 "book_so" := nm_by (by decide +kernel)
theorem g__law_right_len : glS S__law_right "len" = true := by decide +kernel
theorem s__law_right_top_so : Ns N__law_right S__law_right T__law_right 3 "top_so" := ns_by (by decide +kernel)
theorem v__law_right_top_so : Nm N__law_right S__law_right 3 "top_so" := nm_by (by decide +kernel)
theorem g__law_right__law_told : glS S__law_right "_law_told" = true := by decide +kernel
theorem s__law_right_plan_so : Ns N__law_right S__law_right T__law_right 4 "plan_so" := ns_by (by decide +kernel)
theorem v__law_right_plan_so : Nm N__law_right S__law_right 4 "plan_so" := nm_by (by decide +kernel)
theorem g__law_right__law_lists : glS S__law_right "_law_lists" = true := by decide +kernel
theorem g__law_right_form_in : glS S__law_right "form_in" = true := by decide +kernel
theorem s__law_right_near : Ns N__law_right S__law_right T__law_right 5 "near" := ns_by (by decide +kernel)
theorem g__law_right__law_form : glS S__law_right "_law_form" = true := by decide +kernel
theorem g__law_right_long_of : glS S__law_right "long_of" = true := by decide +kernel
theorem v__law_right_near : Nm N__law_right S__law_right 5 "near" := nm_by (by decide +kernel)
theorem g__law_right__law_same : glS S__law_right "_law_same" = true := by decide +kernel
theorem s__law_right_many_so : Ns N__law_right S__law_right T__law_right 6 "many_so" := ns_by (by decide +kernel)
theorem v__law_right_many_so : Nm N__law_right S__law_right 6 "many_so" := nm_by (by decide +kernel)
theorem g__law_right_range : glS S__law_right "range" = true := by decide +kernel
theorem g__law_right_tuple : glS S__law_right "tuple" = true := by decide +kernel
theorem s__law_right_tall_so : Ns N__law_right S__law_right T__law_right 8 "tall_so" := ns_by (by decide +kernel)
theorem s__law_right_whole_so : Ns N__law_right S__law_right T__law_right 9 "whole_so" := ns_by (by decide +kernel)
theorem s__law_right_times_so : Ns N__law_right S__law_right T__law_right 10 "times_so" := ns_by (by decide +kernel)
theorem l__law_right_whole_so : S__law_right.names.lookup ("whole_so" : Str) = some .local := by decide +kernel
theorem l__law_right_times_so : S__law_right.names.lookup ("times_so" : Str) = some .local := by decide +kernel
theorem s__law_right_lap : Ns N__law_right S__law_right T__law_right 11 "lap" := ns_by (by decide +kernel)
theorem v__law_right_times_so : Nm N__law_right S__law_right 10 "times_so" := nm_by (by decide +kernel)
theorem g__law_right_list : glS S__law_right "list" = true := by decide +kernel
theorem g__law_right__law_of : glS S__law_right "_law_of" = true := by decide +kernel
theorem s__law_right_own : Ns N__law_right S__law_right T__law_right 12 "own" := ns_by (by decide +kernel)
theorem v__law_right_whole_so : Nm N__law_right S__law_right 9 "whole_so" := nm_by (by decide +kernel)
theorem v__law_right_tall_so : Nm N__law_right S__law_right 8 "tall_so" := nm_by (by decide +kernel)
theorem g__law_right_alike_pieces : glS S__law_right "alike_pieces" = true := by decide +kernel
theorem v__law_right_own : Nm N__law_right S__law_right 12 "own" := nm_by (by decide +kernel)
theorem g__law_right_how_often : glS S__law_right "how_often" = true := by decide +kernel
theorem s__law_right_got : Ns N__law_right S__law_right T__law_right 13 "got" := ns_by (by decide +kernel)
theorem v__law_right_got : Nm N__law_right S__law_right 13 "got" := nm_by (by decide +kernel)
theorem v__law_right_spot_so : Nm N__law_right S__law_right 14 "spot_so" := nm_by (by decide +kernel)
theorem v__law_right_row_so : Nm N__law_right S__law_right 18 "row_so" := nm_by (by decide +kernel)
theorem v__law_right_place_so : Nm N__law_right S__law_right 15 "place_so" := nm_by (by decide +kernel)
theorem g__law_right_form_between : glS S__law_right "form_between" = true := by decide +kernel
theorem g__law_right_stretch_of : glS S__law_right "stretch_of" = true := by decide +kernel
theorem v__law_right_k : Nm N__law_right S__law_right 7 "k" := nm_by (by decide +kernel)
theorem s__law_right_row_so : Ns N__law_right S__law_right T__law_right 18 "row_so" := ns_by (by decide +kernel)
theorem v__law_right_last_so : Nm N__law_right S__law_right 17 "last_so" := nm_by (by decide +kernel)
theorem v__law_right_first_so : Nm N__law_right S__law_right 16 "first_so" := nm_by (by decide +kernel)
theorem g__law_right_letter_at : glS S__law_right "letter_at" = true := by decide +kernel
theorem g__law_right_last_place : glS S__law_right "last_place" = true := by decide +kernel
theorem g__law_right_first_place : glS S__law_right "first_place" = true := by decide +kernel
theorem s__law_right_last_so : Ns N__law_right S__law_right T__law_right 17 "last_so" := ns_by (by decide +kernel)
theorem s__law_right_first_so : Ns N__law_right S__law_right T__law_right 16 "first_so" := ns_by (by decide +kernel)
theorem s__law_right_place_so : Ns N__law_right S__law_right T__law_right 15 "place_so" := ns_by (by decide +kernel)
theorem s__law_right_k : Ns N__law_right S__law_right T__law_right 7 "k" := ns_by (by decide +kernel)
theorem s__law_right_spot_so : Ns N__law_right S__law_right T__law_right 14 "spot_so" := ns_by (by decide +kernel)
theorem s__law_right_i : Ns N__law_right S__law_right T__law_right 19 "i" := ns_by (by decide +kernel)
theorem s__law_right_j : Ns N__law_right S__law_right T__law_right 20 "j" := ns_by (by decide +kernel)
theorem l__law_right_i : S__law_right.names.lookup ("i" : Str) = some .local := by decide +kernel
theorem l__law_right_j : S__law_right.names.lookup ("j" : Str) = some .local := by decide +kernel
theorem v__law_right_j : Nm N__law_right S__law_right 20 "j" := nm_by (by decide +kernel)
theorem v__law_right_i : Nm N__law_right S__law_right 19 "i" := nm_by (by decide +kernel)
theorem s__law_right_both_so : Ns N__law_right S__law_right T__law_right 21 "both_so" := ns_by (by decide +kernel)
theorem g__law_right_product : glS S__law_right "product" = true := by decide +kernel
theorem v__law_right_both_so : Nm N__law_right S__law_right 21 "both_so" := nm_by (by decide +kernel)
theorem s__law_right_back_so : Ns N__law_right S__law_right T__law_right 22 "back_so" := ns_by (by decide +kernel)
theorem g__law_right__law_pick : glS S__law_right "_law_pick" = true := by decide +kernel
theorem s__law_right_after_so : Ns N__law_right S__law_right T__law_right 23 "after_so" := ns_by (by decide +kernel)
theorem s__law_right_names_so : Ns N__law_right S__law_right T__law_right 24 "names_so" := ns_by (by decide +kernel)
theorem s__law_right_at_so : Ns N__law_right S__law_right T__law_right 25 "at_so" := ns_by (by decide +kernel)
theorem v__law_right_names_so : Nm N__law_right S__law_right 24 "names_so" := nm_by (by decide +kernel)
theorem v__law_right_back_so : Nm N__law_right S__law_right 22 "back_so" := nm_by (by decide +kernel)
theorem v__law_right_at_so : Nm N__law_right S__law_right 25 "at_so" := nm_by (by decide +kernel)
theorem v__law_right_after_so : Nm N__law_right S__law_right 23 "after_so" := nm_by (by decide +kernel)
theorem g__law_right_form_renamed : glS S__law_right "form_renamed" = true := by decide +kernel
theorem g__law_right_form_back : glS S__law_right "form_back" = true := by decide +kernel
theorem s__law_right_due : Ns N__law_right S__law_right T__law_right 26 "due" := ns_by (by decide +kernel)
theorem v__law_right_due : Nm N__law_right S__law_right 26 "due" := nm_by (by decide +kernel)
abbrev Γ__law_right (c__law_take c__law_letters c__law_book c__law_told c__law_lists c_form_in c__law_form c_long_of c__law_same c__law_of c_alike_pieces c_how_often c_form_between c_stretch_of c_letter_at c_last_place c_first_place c_product c__law_pick c_renamed c_form_renamed c_form_back : Fn) : Gm := ⟨N__law_right, S__law_right, T__law_right, BI, [("_law_take", c__law_take), ("_law_letters", c__law_letters), ("_law_book", c__law_book), ("_law_told", c__law_told), ("_law_lists", c__law_lists), ("form_in", c_form_in), ("_law_form", c__law_form), ("long_of", c_long_of), ("_law_same", c__law_same), ("_law_of", c__law_of), ("alike_pieces", c_alike_pieces), ("how_often", c_how_often), ("form_between", c_form_between), ("stretch_of", c_stretch_of), ("letter_at", c_letter_at), ("last_place", c_last_place), ("first_place", c_first_place), ("product", c_product), ("_law_pick", c__law_pick), ("renamed", c_renamed), ("form_renamed", c_form_renamed), ("form_back", c_form_back)], []⟩
theorem J__law_right_0 (c__law_take c__law_letters c__law_book c__law_told c__law_lists c_form_in c__law_form c_long_of c__law_same c__law_of c_alike_pieces c_how_often c_form_between c_stretch_of c_letter_at c_last_place c_first_place c_product c__law_pick c_renamed c_form_renamed c_form_back : Fn) : JSt (Γ__law_right c__law_take c__law_letters c__law_book c__law_told c__law_lists c_form_in c__law_form c_long_of c__law_same c__law_of c_alike_pieces c_how_often c_form_between c_stretch_of c_letter_at c_last_place c_first_place c_product c__law_pick c_renamed c_form_renamed c_form_back) ((defBody x__law_right).getD 0 (.Pass ⟨0, 0, 0, 0⟩)) (B__law_right_0 c__law_take c__law_letters c__law_book c__law_told c__law_lists c_form_in c__law_form c_long_of c__law_same c__law_of c_alike_pieces c_how_often c_form_between c_stretch_of c_letter_at c_last_place c_first_place c_product c__law_pick c_renamed c_form_renamed c_form_back) := (k_set s__law_right_letters_so (k_call ⟨g__law_right__law_letters, rfl, rfl⟩ (k_gs v__law_right_tin (jg_v (je_op p_add je_int (k_call ⟨g__law_right__law_take, rfl, rfl⟩ (k_gs v__law_right_tin (jg_v je_int jg_nil)) (fun _ => rfl) (fun _ => rfl))) jg_nil)) (fun _ => rfl) (fun _ => rfl)) (fun _ => rfl))
theorem J__law_right_1 (c__law_take c__law_letters c__law_book c__law_told c__law_lists c_form_in c__law_form c_long_of c__law_same c__law_of c_alike_pieces c_how_often c_form_between c_stretch_of c_letter_at c_last_place c_first_place c_product c__law_pick c_renamed c_form_renamed c_form_back : Fn) : JSt (Γ__law_right c__law_take c__law_letters c__law_book c__law_told c__law_lists c_form_in c__law_form c_long_of c__law_same c__law_of c_alike_pieces c_how_often c_form_between c_stretch_of c_letter_at c_last_place c_first_place c_product c__law_pick c_renamed c_form_renamed c_form_back) ((defBody x__law_right).getD 1 (.Pass ⟨0, 0, 0, 0⟩)) (B__law_right_1 c__law_take c__law_letters c__law_book c__law_told c__law_lists c_form_in c__law_form c_long_of c__law_same c__law_of c_alike_pieces c_how_often c_form_between c_stretch_of c_letter_at c_last_place c_first_place c_product c__law_pick c_renamed c_form_renamed c_form_back) := (k_set s__law_right_book_so (k_call ⟨g__law_right__law_book, rfl, rfl⟩ (k_gs v__law_right_tin (jg_v (k_mv v__law_right_letters_so) jg_nil)) (fun _ => rfl) (fun _ => rfl)) (fun _ => rfl))
theorem J__law_right_2 (c__law_take c__law_letters c__law_book c__law_told c__law_lists c_form_in c__law_form c_long_of c__law_same c__law_of c_alike_pieces c_how_often c_form_between c_stretch_of c_letter_at c_last_place c_first_place c_product c__law_pick c_renamed c_form_renamed c_form_back : Fn) : JSt (Γ__law_right c__law_take c__law_letters c__law_book c__law_told c__law_lists c_form_in c__law_form c_long_of c__law_same c__law_of c_alike_pieces c_how_often c_form_between c_stretch_of c_letter_at c_last_place c_first_place c_product c__law_pick c_renamed c_form_renamed c_form_back) ((defBody x__law_right).getD 2 (.Pass ⟨0, 0, 0, 0⟩)) (B__law_right_2 c__law_take c__law_letters c__law_book c__law_told c__law_lists c_form_in c__law_form c_long_of c__law_same c__law_of c_alike_pieces c_how_often c_form_between c_stretch_of c_letter_at c_last_place c_first_place c_product c__law_pick c_renamed c_form_renamed c_form_back) := (k_set s__law_right_top_so (je_op p_sub (k_b1 ⟨g__law_right_len, t_len⟩ b_len (k_l v__law_right_book_so) rfl) je_int) (fun _ => rfl))
theorem J__law_right_3 (c__law_take c__law_letters c__law_book c__law_told c__law_lists c_form_in c__law_form c_long_of c__law_same c__law_of c_alike_pieces c_how_often c_form_between c_stretch_of c_letter_at c_last_place c_first_place c_product c__law_pick c_renamed c_form_renamed c_form_back : Fn) : JSt (Γ__law_right c__law_take c__law_letters c__law_book c__law_told c__law_lists c_form_in c__law_form c_long_of c__law_same c__law_of c_alike_pieces c_how_often c_form_between c_stretch_of c_letter_at c_last_place c_first_place c_product c__law_pick c_renamed c_form_renamed c_form_back) ((defBody x__law_right).getD 3 (.Pass ⟨0, 0, 0, 0⟩)) (B__law_right_3 c__law_take c__law_letters c__law_book c__law_told c__law_lists c_form_in c__law_form c_long_of c__law_same c__law_of c_alike_pieces c_how_often c_form_between c_stretch_of c_letter_at c_last_place c_first_place c_product c__law_pick c_renamed c_form_renamed c_form_back) := (k_set s__law_right_plan_so (k_call ⟨g__law_right__law_told, rfl, rfl⟩ (jg_v (k_mv v__law_right_book_so) (jg_v (k_mv v__law_right_top_so) jg_nil)) (fun _ => rfl) (fun _ => rfl)) (fun _ => rfl))
theorem J__law_right_4 (c__law_take c__law_letters c__law_book c__law_told c__law_lists c_form_in c__law_form c_long_of c__law_same c__law_of c_alike_pieces c_how_often c_form_between c_stretch_of c_letter_at c_last_place c_first_place c_product c__law_pick c_renamed c_form_renamed c_form_back : Fn) : JSt (Γ__law_right c__law_take c__law_letters c__law_book c__law_told c__law_lists c_form_in c__law_form c_long_of c__law_same c__law_of c_alike_pieces c_how_often c_form_between c_stretch_of c_letter_at c_last_place c_first_place c_product c__law_pick c_renamed c_form_renamed c_form_back) ((defBody x__law_right).getD 4 (.Pass ⟨0, 0, 0, 0⟩)) (B__law_right_4 c__law_take c__law_letters c__law_book c__law_told c__law_lists c_form_in c__law_form c_long_of c__law_same c__law_of c_alike_pieces c_how_often c_form_between c_stretch_of c_letter_at c_last_place c_first_place c_product c__law_pick c_renamed c_form_renamed c_form_back) := (jst_if (jt_cmp p_gt (k_b1 ⟨g__law_right_len, t_len⟩ b_len (k_l v__law_right_plan_so) rfl) je_int rfl) (jss_cons (jst_ret je_bl) jss_nil) jss_nil)
theorem J__law_right_5 (c__law_take c__law_letters c__law_book c__law_told c__law_lists c_form_in c__law_form c_long_of c__law_same c__law_of c_alike_pieces c_how_often c_form_between c_stretch_of c_letter_at c_last_place c_first_place c_product c__law_pick c_renamed c_form_renamed c_form_back : Fn) : JSt (Γ__law_right c__law_take c__law_letters c__law_book c__law_told c__law_lists c_form_in c__law_form c_long_of c__law_same c__law_of c_alike_pieces c_how_often c_form_between c_stretch_of c_letter_at c_last_place c_first_place c_product c__law_pick c_renamed c_form_renamed c_form_back) ((defBody x__law_right).getD 5 (.Pass ⟨0, 0, 0, 0⟩)) (B__law_right_5 c__law_take c__law_letters c__law_book c__law_told c__law_lists c_form_in c__law_form c_long_of c__law_same c__law_of c_alike_pieces c_how_often c_form_between c_stretch_of c_letter_at c_last_place c_first_place c_product c__law_pick c_renamed c_form_renamed c_form_back) := (k_set s__law_right_near (k_call ⟨g__law_right_form_in, rfl, rfl⟩ (jg_v (k_call ⟨g__law_right__law_lists, rfl, rfl⟩ (jg_v (k_mv v__law_right_book_so) jg_nil) (fun _ => rfl) (fun _ => rfl)) (jg_v (k_mv v__law_right_top_so) jg_nil)) (fun _ => rfl) (fun _ => rfl)) (fun _ => rfl))
theorem J__law_right_6 (c__law_take c__law_letters c__law_book c__law_told c__law_lists c_form_in c__law_form c_long_of c__law_same c__law_of c_alike_pieces c_how_often c_form_between c_stretch_of c_letter_at c_last_place c_first_place c_product c__law_pick c_renamed c_form_renamed c_form_back : Fn) : JSt (Γ__law_right c__law_take c__law_letters c__law_book c__law_told c__law_lists c_form_in c__law_form c_long_of c__law_same c__law_of c_alike_pieces c_how_often c_form_between c_stretch_of c_letter_at c_last_place c_first_place c_product c__law_pick c_renamed c_form_renamed c_form_back) ((defBody x__law_right).getD 6 (.Pass ⟨0, 0, 0, 0⟩)) (B__law_right_6 c__law_take c__law_letters c__law_book c__law_told c__law_lists c_form_in c__law_form c_long_of c__law_same c__law_of c_alike_pieces c_how_often c_form_between c_stretch_of c_letter_at c_last_place c_first_place c_product c__law_pick c_renamed c_form_renamed c_form_back) := (jst_if (jt_not (jt_val (k_call ⟨g__law_right__law_same, rfl, rfl⟩ (jg_v (je_fz (jo_lst (ja_cons (k_mv v__law_right_near) (ja_cons (k_call ⟨g__law_right_long_of, rfl, rfl⟩ (jg_v (k_mv v__law_right_book_so) (jg_v (k_mv v__law_right_top_so) jg_nil)) (fun _ => rfl) (fun _ => rfl)) ja_nil)))) (jg_v (je_fz (jo_lst (ja_cons (k_call ⟨g__law_right__law_form, rfl, rfl⟩ (jg_v (k_mv v__law_right_plan_so) jg_nil) (fun _ => rfl) (fun _ => rfl)) (ja_cons (k_b1 ⟨g__law_right_len, t_len⟩ b_len (k_l v__law_right_plan_so) rfl) ja_nil)))) jg_nil)) (fun _ => rfl) (fun _ => rfl)) (fun _ _ => rfl))) (jss_cons (jst_ret je_bl) jss_nil) jss_nil)
theorem J__law_right_7 (c__law_take c__law_letters c__law_book c__law_told c__law_lists c_form_in c__law_form c_long_of c__law_same c__law_of c_alike_pieces c_how_often c_form_between c_stretch_of c_letter_at c_last_place c_first_place c_product c__law_pick c_renamed c_form_renamed c_form_back : Fn) : JSt (Γ__law_right c__law_take c__law_letters c__law_book c__law_told c__law_lists c_form_in c__law_form c_long_of c__law_same c__law_of c_alike_pieces c_how_often c_form_between c_stretch_of c_letter_at c_last_place c_first_place c_product c__law_pick c_renamed c_form_renamed c_form_back) ((defBody x__law_right).getD 7 (.Pass ⟨0, 0, 0, 0⟩)) (B__law_right_7 c__law_take c__law_letters c__law_book c__law_told c__law_lists c_form_in c__law_form c_long_of c__law_same c__law_of c_alike_pieces c_how_often c_form_between c_stretch_of c_letter_at c_last_place c_first_place c_product c__law_pick c_renamed c_form_renamed c_form_back) := (k_set s__law_right_many_so (je_op p_add je_int (k_call ⟨g__law_right__law_take, rfl, rfl⟩ (k_gs v__law_right_tin (jg_v je_int jg_nil)) (fun _ => rfl) (fun _ => rfl))) (fun _ => rfl))
theorem J__law_right_8 (c__law_take c__law_letters c__law_book c__law_told c__law_lists c_form_in c__law_form c_long_of c__law_same c__law_of c_alike_pieces c_how_often c_form_between c_stretch_of c_letter_at c_last_place c_first_place c_product c__law_pick c_renamed c_form_renamed c_form_back : Fn) : JSt (Γ__law_right c__law_take c__law_letters c__law_book c__law_told c__law_lists c_form_in c__law_form c_long_of c__law_same c__law_of c_alike_pieces c_how_often c_form_between c_stretch_of c_letter_at c_last_place c_first_place c_product c__law_pick c_renamed c_form_renamed c_form_back) ((defBody x__law_right).getD 8 (.Pass ⟨0, 0, 0, 0⟩)) (B__law_right_8 c__law_take c__law_letters c__law_book c__law_told c__law_lists c_form_in c__law_form c_long_of c__law_same c__law_of c_alike_pieces c_how_often c_form_between c_stretch_of c_letter_at c_last_place c_first_place c_product c__law_pick c_renamed c_form_renamed c_form_back) := (k_set s__law_right_tall_so (je_op p_add (k_mv v__law_right_book_so) (k_b1 ⟨g__law_right_tuple, t_tuple⟩ b_tuple (js_o (k_lc ["k"] [7] (lk_by (N := N__law_right) (sc := S__law_right) (own := [("k", 7)]) (ts := [7]) (by decide +kernel)) rfl rfl (k_range1 ⟨g__law_right_range, t_range⟩ (k_mv v__law_right_many_so)) (k_name (ns_by (N := N__law_right) (sc := (relS _ S__law_right)) (st := ["k"]) (by decide +kernel))) jts_nil (je_tup (ja_cons (je_op p_add (k_mv (nm_by (N := N__law_right) (sc := (relS _ S__law_right)) (by decide +kernel))) (k_mv (nm_by (N := N__law_right) (sc := (relS _ S__law_right)) (by decide +kernel)))) (ja_cons (je_op p_add (k_mv (nm_by (N := N__law_right) (sc := (relS _ S__law_right)) (by decide +kernel))) (k_mv (nm_by (N := N__law_right) (sc := (relS _ S__law_right)) (by decide +kernel)))) ja_nil))) (fun _ _ => rfl))) rfl)) (fun _ => rfl))
theorem J__law_right_9 (c__law_take c__law_letters c__law_book c__law_told c__law_lists c_form_in c__law_form c_long_of c__law_same c__law_of c_alike_pieces c_how_often c_form_between c_stretch_of c_letter_at c_last_place c_first_place c_product c__law_pick c_renamed c_form_renamed c_form_back : Fn) : JSt (Γ__law_right c__law_take c__law_letters c__law_book c__law_told c__law_lists c_form_in c__law_form c_long_of c__law_same c__law_of c_alike_pieces c_how_often c_form_between c_stretch_of c_letter_at c_last_place c_first_place c_product c__law_pick c_renamed c_form_renamed c_form_back) ((defBody x__law_right).getD 9 (.Pass ⟨0, 0, 0, 0⟩)) (B__law_right_9 c__law_take c__law_letters c__law_book c__law_told c__law_lists c_form_in c__law_form c_long_of c__law_same c__law_of c_alike_pieces c_how_often c_form_between c_stretch_of c_letter_at c_last_place c_first_place c_product c__law_pick c_renamed c_form_renamed c_form_back) := (k_par s__law_right_whole_so s__law_right_times_so (jg_v (je_op p_add (k_mv v__law_right_top_so) (k_mv v__law_right_many_so)) (jg_v (je_op p_pow je_int je_int) jg_nil)) (by decide) l__law_right_whole_so l__law_right_times_so rfl (fun _ => rfl))
theorem J__law_right_10 (c__law_take c__law_letters c__law_book c__law_told c__law_lists c_form_in c__law_form c_long_of c__law_same c__law_of c_alike_pieces c_how_often c_form_between c_stretch_of c_letter_at c_last_place c_first_place c_product c__law_pick c_renamed c_form_renamed c_form_back : Fn) : JSt (Γ__law_right c__law_take c__law_letters c__law_book c__law_told c__law_lists c_form_in c__law_form c_long_of c__law_same c__law_of c_alike_pieces c_how_often c_form_between c_stretch_of c_letter_at c_last_place c_first_place c_product c__law_pick c_renamed c_form_renamed c_form_back) ((defBody x__law_right).getD 10 (.Pass ⟨0, 0, 0, 0⟩)) (B__law_right_10 c__law_take c__law_letters c__law_book c__law_told c__law_lists c_form_in c__law_form c_long_of c__law_same c__law_of c_alike_pieces c_how_often c_form_between c_stretch_of c_letter_at c_last_place c_first_place c_product c__law_pick c_renamed c_form_renamed c_form_back) := (jst_for (k_range1 ⟨g__law_right_range, t_range⟩ (je_op p_sub (k_mv v__law_right_many_so) je_int)) (k_name s__law_right_lap) (jss_cons (k_set s__law_right_times_so (je_op p_mul (k_mv v__law_right_times_so) je_int) (fun _ => rfl)) jss_nil) (fun _ _ => rfl))
theorem J__law_right_11 (c__law_take c__law_letters c__law_book c__law_told c__law_lists c_form_in c__law_form c_long_of c__law_same c__law_of c_alike_pieces c_how_often c_form_between c_stretch_of c_letter_at c_last_place c_first_place c_product c__law_pick c_renamed c_form_renamed c_form_back : Fn) : JSt (Γ__law_right c__law_take c__law_letters c__law_book c__law_told c__law_lists c_form_in c__law_form c_long_of c__law_same c__law_of c_alike_pieces c_how_often c_form_between c_stretch_of c_letter_at c_last_place c_first_place c_product c__law_pick c_renamed c_form_renamed c_form_back) ((defBody x__law_right).getD 11 (.Pass ⟨0, 0, 0, 0⟩)) (B__law_right_11 c__law_take c__law_letters c__law_book c__law_told c__law_lists c_form_in c__law_form c_long_of c__law_same c__law_of c_alike_pieces c_how_often c_form_between c_stretch_of c_letter_at c_last_place c_first_place c_product c__law_pick c_renamed c_form_renamed c_form_back) := (k_set s__law_right_own (k_call ⟨g__law_right__law_of, rfl, rfl⟩ (k_gs v__law_right_tin (jg_v (je_fz (k_o1 ⟨g__law_right_list, t_list⟩ bo_list (k_l v__law_right_letters_so) rfl)) jg_nil)) (fun _ => rfl) (fun _ => rfl)) (fun _ => rfl))
theorem J__law_right_12 (c__law_take c__law_letters c__law_book c__law_told c__law_lists c_form_in c__law_form c_long_of c__law_same c__law_of c_alike_pieces c_how_often c_form_between c_stretch_of c_letter_at c_last_place c_first_place c_product c__law_pick c_renamed c_form_renamed c_form_back : Fn) : JSt (Γ__law_right c__law_take c__law_letters c__law_book c__law_told c__law_lists c_form_in c__law_form c_long_of c__law_same c__law_of c_alike_pieces c_how_often c_form_between c_stretch_of c_letter_at c_last_place c_first_place c_product c__law_pick c_renamed c_form_renamed c_form_back) ((defBody x__law_right).getD 12 (.Pass ⟨0, 0, 0, 0⟩)) (B__law_right_12 c__law_take c__law_letters c__law_book c__law_told c__law_lists c_form_in c__law_form c_long_of c__law_same c__law_of c_alike_pieces c_how_often c_form_between c_stretch_of c_letter_at c_last_place c_first_place c_product c__law_pick c_renamed c_form_renamed c_form_back) := (k_set s__law_right_got (je_fz (jo_lst (ja_cons (k_call ⟨g__law_right_long_of, rfl, rfl⟩ (jg_v (k_mv v__law_right_tall_so) (jg_v (k_mv v__law_right_whole_so) jg_nil)) (fun _ => rfl) (fun _ => rfl)) (ja_cons (k_call ⟨g__law_right_how_often, rfl, rfl⟩ (jg_v (k_mv v__law_right_tall_so) (jg_v (k_mv v__law_right_whole_so) (jg_v (k_mv v__law_right_own) jg_nil))) (fun _ => rfl) (fun _ => rfl)) (ja_cons (k_call ⟨g__law_right_form_in, rfl, rfl⟩ (jg_v (k_mv v__law_right_tall_so) (jg_v (k_mv v__law_right_whole_so) jg_nil)) (fun _ => rfl) (fun _ => rfl)) (ja_cons (k_call ⟨g__law_right_alike_pieces, rfl, rfl⟩ (jg_v (k_mv v__law_right_tall_so) (jg_v (k_mv v__law_right_whole_so) (jg_v (k_mv v__law_right_top_so) jg_nil))) (fun _ => rfl) (fun _ => rfl)) ja_nil)))))) (fun _ => rfl))
theorem J__law_right_13 (c__law_take c__law_letters c__law_book c__law_told c__law_lists c_form_in c__law_form c_long_of c__law_same c__law_of c_alike_pieces c_how_often c_form_between c_stretch_of c_letter_at c_last_place c_first_place c_product c__law_pick c_renamed c_form_renamed c_form_back : Fn) : JSt (Γ__law_right c__law_take c__law_letters c__law_book c__law_told c__law_lists c_form_in c__law_form c_long_of c__law_same c__law_of c_alike_pieces c_how_often c_form_between c_stretch_of c_letter_at c_last_place c_first_place c_product c__law_pick c_renamed c_form_renamed c_form_back) ((defBody x__law_right).getD 13 (.Pass ⟨0, 0, 0, 0⟩)) (B__law_right_13 c__law_take c__law_letters c__law_book c__law_told c__law_lists c_form_in c__law_form c_long_of c__law_same c__law_of c_alike_pieces c_how_often c_form_between c_stretch_of c_letter_at c_last_place c_first_place c_product c__law_pick c_renamed c_form_renamed c_form_back) := (jst_if (jt_not (jt_val (k_call ⟨g__law_right__law_same, rfl, rfl⟩ (jg_v (k_mv v__law_right_got) (jg_v (je_fz (jo_lst (ja_cons (je_op p_mul (k_b1 ⟨g__law_right_len, t_len⟩ b_len (k_l v__law_right_plan_so) rfl) (k_mv v__law_right_times_so)) (ja_cons (je_op p_mul (je_m1 m_count PySem.F.slot_str_count PySem.F.type_str_count (k_mv v__law_right_plan_so) (k_l v__law_right_own) (fun _ => rfl) rfl) (k_mv v__law_right_times_so)) (ja_cons (k_mv v__law_right_near) (ja_cons je_bl ja_nil)))))) jg_nil)) (fun _ => rfl) (fun _ => rfl)) (fun _ _ => rfl))) (jss_cons (jst_ret je_bl) jss_nil) jss_nil)
theorem J__law_right_14 (c__law_take c__law_letters c__law_book c__law_told c__law_lists c_form_in c__law_form c_long_of c__law_same c__law_of c_alike_pieces c_how_often c_form_between c_stretch_of c_letter_at c_last_place c_first_place c_product c__law_pick c_renamed c_form_renamed c_form_back : Fn) : JSt (Γ__law_right c__law_take c__law_letters c__law_book c__law_told c__law_lists c_form_in c__law_form c_long_of c__law_same c__law_of c_alike_pieces c_how_often c_form_between c_stretch_of c_letter_at c_last_place c_first_place c_product c__law_pick c_renamed c_form_renamed c_form_back) ((defBody x__law_right).getD 14 (.Pass ⟨0, 0, 0, 0⟩)) (B__law_right_14 c__law_take c__law_letters c__law_book c__law_told c__law_lists c_form_in c__law_form c_long_of c__law_same c__law_of c_alike_pieces c_how_often c_form_between c_stretch_of c_letter_at c_last_place c_first_place c_product c__law_pick c_renamed c_form_renamed c_form_back) := (jst_if (jt_cmp p_ne (k_mv v__law_right_plan_so) (je_str (l := []) (by decide +kernel) (by decide)) rfl) (jss_cons (k_set s__law_right_spot_so (je_op p_mod (je_op p_add (je_op p_mul (k_call ⟨g__law_right__law_take, rfl, rfl⟩ (k_gs v__law_right_tin (jg_v (je_op p_pow je_int je_int) jg_nil)) (fun _ => rfl) (fun _ => rfl)) je_int) (k_call ⟨g__law_right__law_take, rfl, rfl⟩ (k_gs v__law_right_tin (jg_v (je_op p_pow je_int je_int) jg_nil)) (fun _ => rfl) (fun _ => rfl))) (k_mv v__law_right_times_so)) (fun _ => rfl)) (jss_cons (k_set s__law_right_k (k_call ⟨g__law_right__law_take, rfl, rfl⟩ (k_gs v__law_right_tin (jg_v (k_b1 ⟨g__law_right_len, t_len⟩ b_len (k_l v__law_right_plan_so) rfl) jg_nil)) (fun _ => rfl) (fun _ => rfl)) (fun _ => rfl)) (jss_cons (k_set s__law_right_place_so (je_op p_add (je_op p_mul (k_mv v__law_right_spot_so) (k_b1 ⟨g__law_right_len, t_len⟩ b_len (k_l v__law_right_plan_so) rfl)) (k_mv v__law_right_k)) (fun _ => rfl)) (jss_cons (k_set s__law_right_first_so (je_if (jt_opS p_in (k_mv v__law_right_own) (k_l v__law_right_plan_so) rfl) (je_m1 m_find PySem.F.slot_str_find PySem.F.type_str_find (k_mv v__law_right_plan_so) (k_l v__law_right_own) (fun _ => rfl) rfl) je_non) (fun _ => rfl)) (jss_cons (k_set s__law_right_last_so (je_if (jt_opS p_in (k_mv v__law_right_own) (k_l v__law_right_plan_so) rfl) (je_op p_sub (je_op p_sub (je_op p_mul (k_b1 ⟨g__law_right_len, t_len⟩ b_len (k_l v__law_right_plan_so) rfl) (k_mv v__law_right_times_so)) je_int) (je_m1 m_find PySem.F.slot_str_find PySem.F.type_str_find (je_rev (k_mv v__law_right_plan_so)) (k_l v__law_right_own) (fun _ => rfl) rfl)) je_non) (fun _ => rfl)) (jss_cons (k_set s__law_right_got (je_fz (jo_lst (ja_cons (k_call ⟨g__law_right_letter_at, rfl, rfl⟩ (jg_v (k_mv v__law_right_tall_so) (jg_v (k_mv v__law_right_whole_so) (jg_v (k_mv v__law_right_place_so) jg_nil))) (fun _ => rfl) (fun _ => rfl)) (ja_cons (k_call ⟨g__law_right_first_place, rfl, rfl⟩ (jg_v (k_mv v__law_right_tall_so) (jg_v (k_mv v__law_right_whole_so) (jg_v (k_mv v__law_right_own) jg_nil))) (fun _ => rfl) (fun _ => rfl)) (ja_cons (k_call ⟨g__law_right_last_place, rfl, rfl⟩ (jg_v (k_mv v__law_right_tall_so) (jg_v (k_mv v__law_right_whole_so) (jg_v (k_mv v__law_right_own) jg_nil))) (fun _ => rfl) (fun _ => rfl)) (ja_cons (k_call ⟨g__law_right_letter_at, rfl, rfl⟩ (jg_v (k_mv v__law_right_tall_so) (jg_v (k_mv v__law_right_whole_so) (jg_v (je_op p_mul (k_b1 ⟨g__law_right_len, t_len⟩ b_len (k_l v__law_right_plan_so) rfl) (k_mv v__law_right_times_so)) jg_nil))) (fun _ => rfl) (fun _ => rfl)) ja_nil)))))) (fun _ => rfl)) (jss_cons (jst_if (jt_not (jt_val (k_call ⟨g__law_right__law_same, rfl, rfl⟩ (jg_v (k_mv v__law_right_got) (jg_v (je_fz (jo_lst (ja_cons (k_ixN v__law_right_plan_so (k_mv v__law_right_k) (fun _ _ => rfl)) (ja_cons (k_mv v__law_right_first_so) (ja_cons (k_mv v__law_right_last_so) (ja_cons je_non ja_nil)))))) jg_nil)) (fun _ => rfl) (fun _ => rfl)) (fun _ _ => rfl))) (jss_cons (jst_ret je_bl) jss_nil) jss_nil) (jss_cons (k_set s__law_right_row_so (je_sl (je_op p_mul (k_mv v__law_right_plan_so) je_int) (jp_of (k_mv v__law_right_k)) (jp_of (je_op p_add (je_op p_add (k_mv v__law_right_k) (k_b1 ⟨g__law_right_len, t_len⟩ b_len (k_l v__law_right_plan_so) rfl)) je_int))) (fun _ => rfl)) (jss_cons (k_set s__law_right_got (je_fz (jo_lst (ja_cons (k_call ⟨g__law_right_stretch_of, rfl, rfl⟩ (jg_v (k_mv v__law_right_tall_so) (jg_v (k_mv v__law_right_whole_so) (jg_v (k_mv v__law_right_place_so) (jg_v (k_b1 ⟨g__law_right_len, t_len⟩ b_len (k_l v__law_right_row_so) rfl) jg_nil)))) (fun _ => rfl) (fun _ => rfl)) (ja_cons (k_call ⟨g__law_right_form_between, rfl, rfl⟩ (jg_v (k_mv v__law_right_tall_so) (jg_v (k_mv v__law_right_whole_so) (jg_v (k_mv v__law_right_place_so) (jg_v (je_op p_add (k_mv v__law_right_place_so) (k_b1 ⟨g__law_right_len, t_len⟩ b_len (k_l v__law_right_row_so) rfl)) jg_nil)))) (fun _ => rfl) (fun _ => rfl)) ja_nil)))) (fun _ => rfl)) (jss_cons (jst_if (JW.jt (jw_and (jt_cmp p_lt (je_op p_add (k_mv v__law_right_spot_so) je_int) (k_mv v__law_right_times_so) rfl) (jw_and1 (jt_not (jt_val (k_call ⟨g__law_right__law_same, rfl, rfl⟩ (jg_v (k_mv v__law_right_got) (jg_v (je_fz (jo_lst (ja_cons (k_mv v__law_right_row_so) (ja_cons (k_call ⟨g__law_right__law_form, rfl, rfl⟩ (jg_v (k_mv v__law_right_row_so) jg_nil) (fun _ => rfl) (fun _ => rfl)) ja_nil)))) jg_nil)) (fun _ => rfl) (fun _ => rfl)) (fun _ _ => rfl)))))) (jss_cons (jst_ret je_bl) jss_nil) jss_nil) jss_nil)))))))))) jss_nil)
theorem J__law_right_15 (c__law_take c__law_letters c__law_book c__law_told c__law_lists c_form_in c__law_form c_long_of c__law_same c__law_of c_alike_pieces c_how_often c_form_between c_stretch_of c_letter_at c_last_place c_first_place c_product c__law_pick c_renamed c_form_renamed c_form_back : Fn) : JSt (Γ__law_right c__law_take c__law_letters c__law_book c__law_told c__law_lists c_form_in c__law_form c_long_of c__law_same c__law_of c_alike_pieces c_how_often c_form_between c_stretch_of c_letter_at c_last_place c_first_place c_product c__law_pick c_renamed c_form_renamed c_form_back) ((defBody x__law_right).getD 15 (.Pass ⟨0, 0, 0, 0⟩)) (B__law_right_15 c__law_take c__law_letters c__law_book c__law_told c__law_lists c_form_in c__law_form c_long_of c__law_same c__law_of c_alike_pieces c_how_often c_form_between c_stretch_of c_letter_at c_last_place c_first_place c_product c__law_pick c_renamed c_form_renamed c_form_back) := (k_par s__law_right_i s__law_right_j (jg_v (k_call ⟨g__law_right__law_take, rfl, rfl⟩ (k_gs v__law_right_tin (jg_v (je_op p_add (k_mv v__law_right_top_so) je_int) jg_nil)) (fun _ => rfl) (fun _ => rfl)) (jg_v (k_call ⟨g__law_right__law_take, rfl, rfl⟩ (k_gs v__law_right_tin (jg_v (je_op p_add (k_mv v__law_right_top_so) je_int) jg_nil)) (fun _ => rfl) (fun _ => rfl)) jg_nil)) (by decide) l__law_right_i l__law_right_j rfl (fun _ => rfl))
theorem J__law_right_16 (c__law_take c__law_letters c__law_book c__law_told c__law_lists c_form_in c__law_form c_long_of c__law_same c__law_of c_alike_pieces c_how_often c_form_between c_stretch_of c_letter_at c_last_place c_first_place c_product c__law_pick c_renamed c_form_renamed c_form_back : Fn) : JSt (Γ__law_right c__law_take c__law_letters c__law_book c__law_told c__law_lists c_form_in c__law_form c_long_of c__law_same c__law_of c_alike_pieces c_how_often c_form_between c_stretch_of c_letter_at c_last_place c_first_place c_product c__law_pick c_renamed c_form_renamed c_form_back) ((defBody x__law_right).getD 16 (.Pass ⟨0, 0, 0, 0⟩)) (B__law_right_16 c__law_take c__law_letters c__law_book c__law_told c__law_lists c_form_in c__law_form c_long_of c__law_same c__law_of c_alike_pieces c_how_often c_form_between c_stretch_of c_letter_at c_last_place c_first_place c_product c__law_pick c_renamed c_form_renamed c_form_back) := (k_set s__law_right_both_so (je_op p_add (k_mv v__law_right_book_so) (je_tup (ja_cons (je_tup (ja_cons (k_mv v__law_right_i) (ja_cons (k_mv v__law_right_j) ja_nil))) ja_nil))) (fun _ => rfl))
theorem J__law_right_17 (c__law_take c__law_letters c__law_book c__law_told c__law_lists c_form_in c__law_form c_long_of c__law_same c__law_of c_alike_pieces c_how_often c_form_between c_stretch_of c_letter_at c_last_place c_first_place c_product c__law_pick c_renamed c_form_renamed c_form_back : Fn) : JSt (Γ__law_right c__law_take c__law_letters c__law_book c__law_told c__law_lists c_form_in c__law_form c_long_of c__law_same c__law_of c_alike_pieces c_how_often c_form_between c_stretch_of c_letter_at c_last_place c_first_place c_product c__law_pick c_renamed c_form_renamed c_form_back) ((defBody x__law_right).getD 17 (.Pass ⟨0, 0, 0, 0⟩)) (B__law_right_17 c__law_take c__law_letters c__law_book c__law_told c__law_lists c_form_in c__law_form c_long_of c__law_same c__law_of c_alike_pieces c_how_often c_form_between c_stretch_of c_letter_at c_last_place c_first_place c_product c__law_pick c_renamed c_form_renamed c_form_back) := (jst_if (jt_not (jt_val (k_call ⟨g__law_right__law_same, rfl, rfl⟩ (jg_v (k_call ⟨g__law_right_form_in, rfl, rfl⟩ (jg_v (k_mv v__law_right_both_so) (jg_v (je_op p_add (k_mv v__law_right_top_so) je_int) jg_nil)) (fun _ => rfl) (fun _ => rfl)) (jg_v (k_call ⟨g__law_right_product, rfl, rfl⟩ (jg_v (k_call ⟨g__law_right_form_in, rfl, rfl⟩ (jg_v (k_mv v__law_right_book_so) (jg_v (k_mv v__law_right_i) jg_nil)) (fun _ => rfl) (fun _ => rfl)) (jg_v (k_call ⟨g__law_right_form_in, rfl, rfl⟩ (jg_v (k_mv v__law_right_book_so) (jg_v (k_mv v__law_right_j) jg_nil)) (fun _ => rfl) (fun _ => rfl)) jg_nil)) (fun _ => rfl) (fun _ => rfl)) jg_nil)) (fun _ => rfl) (fun _ => rfl)) (fun _ _ => rfl))) (jss_cons (jst_ret je_bl) jss_nil) jss_nil)
theorem J__law_right_18 (c__law_take c__law_letters c__law_book c__law_told c__law_lists c_form_in c__law_form c_long_of c__law_same c__law_of c_alike_pieces c_how_often c_form_between c_stretch_of c_letter_at c_last_place c_first_place c_product c__law_pick c_renamed c_form_renamed c_form_back : Fn) : JSt (Γ__law_right c__law_take c__law_letters c__law_book c__law_told c__law_lists c_form_in c__law_form c_long_of c__law_same c__law_of c_alike_pieces c_how_often c_form_between c_stretch_of c_letter_at c_last_place c_first_place c_product c__law_pick c_renamed c_form_renamed c_form_back) ((defBody x__law_right).getD 18 (.Pass ⟨0, 0, 0, 0⟩)) (B__law_right_18 c__law_take c__law_letters c__law_book c__law_told c__law_lists c_form_in c__law_form c_long_of c__law_same c__law_of c_alike_pieces c_how_often c_form_between c_stretch_of c_letter_at c_last_place c_first_place c_product c__law_pick c_renamed c_form_renamed c_form_back) := (k_set s__law_right_back_so (k_b1 ⟨g__law_right_tuple, t_tuple⟩ b_tuple (js_o (k_lc ["piece_so"] [27] (lk_by (N := N__law_right) (sc := S__law_right) (own := [("piece_so", 27)]) (ts := [27]) (by decide +kernel)) rfl rfl (ji_val (k_mv v__law_right_book_so)) (k_name (ns_by (N := N__law_right) (sc := (relS _ S__law_right)) (st := ["piece_so"]) (by decide +kernel))) jts_nil (k_b1 ⟨(by decide +kernel : glS (relS _ S__law_right) "tuple" = true), t_tuple⟩ b_tuple (js_o (k_lc ["its"] [28] (lk_by (N := N__law_right) (sc := (relS _ S__law_right)) (own := [("its", 28)]) (ts := [28]) (by decide +kernel)) rfl rfl (ji_val (je_rev (k_mv (nm_by (N := N__law_right) (sc := (relS _ S__law_right)) (by decide +kernel))))) (k_name (ns_by (N := N__law_right) (sc := (relS _ (relS _ S__law_right))) (st := ["its"]) (by decide +kernel))) jts_nil (je_if (jt_val (k_isi ⟨(by decide +kernel : glS (relS _ (relS _ S__law_right)) "isinstance" = true), t_isinstance⟩ (k_mv (nm_by (N := N__law_right) (sc := (relS _ (relS _ S__law_right))) (by decide +kernel))) ⟨(by decide +kernel : glS (relS _ (relS _ S__law_right)) "int" = true), t_int⟩ (by decide)) (fun _ _ => rfl)) (k_mv (nm_by (N := N__law_right) (sc := (relS _ (relS _ S__law_right))) (by decide +kernel))) (je_rev (k_mv (nm_by (N := N__law_right) (sc := (relS _ (relS _ S__law_right))) (by decide +kernel))))) (fun _ _ => rfl))) rfl) (fun _ _ => rfl))) rfl) (fun _ => rfl))
theorem J__law_right_19 (c__law_take c__law_letters c__law_book c__law_told c__law_lists c_form_in c__law_form c_long_of c__law_same c__law_of c_alike_pieces c_how_often c_form_between c_stretch_of c_letter_at c_last_place c_first_place c_product c__law_pick c_renamed c_form_renamed c_form_back : Fn) : JSt (Γ__law_right c__law_take c__law_letters c__law_book c__law_told c__law_lists c_form_in c__law_form c_long_of c__law_same c__law_of c_alike_pieces c_how_often c_form_between c_stretch_of c_letter_at c_last_place c_first_place c_product c__law_pick c_renamed c_form_renamed c_form_back) ((defBody x__law_right).getD 19 (.Pass ⟨0, 0, 0, 0⟩)) (B__law_right_19 c__law_take c__law_letters c__law_book c__law_told c__law_lists c_form_in c__law_form c_long_of c__law_same c__law_of c_alike_pieces c_how_often c_form_between c_stretch_of c_letter_at c_last_place c_first_place c_product c__law_pick c_renamed c_form_renamed c_form_back) := (k_set s__law_right_after_so (je_m1 m_join PySem.F.slot_str_join PySem.F.type_str_join (je_str (l := []) (by decide +kernel) (by decide)) (js_o (k_callO ⟨g__law_right__law_pick, rfl, rfl⟩ (k_gs v__law_right_tin (jg_v (je_fz (k_o1 ⟨g__law_right_list, t_list⟩ bo_list (js_v (je_str (l := [97, 98, 99, 100, 101, 102, 103, 104]) (by decide +kernel) (by decide))) rfl)) (jg_v je_int jg_nil))) (fun _ => rfl) (fun _ => rfl))) (fun _ => rfl) rfl) (fun _ => rfl))
theorem J__law_right_20 (c__law_take c__law_letters c__law_book c__law_told c__law_lists c_form_in c__law_form c_long_of c__law_same c__law_of c_alike_pieces c_how_often c_form_between c_stretch_of c_letter_at c_last_place c_first_place c_product c__law_pick c_renamed c_form_renamed c_form_back : Fn) : JSt (Γ__law_right c__law_take c__law_letters c__law_book c__law_told c__law_lists c_form_in c__law_form c_long_of c__law_same c__law_of c_alike_pieces c_how_often c_form_between c_stretch_of c_letter_at c_last_place c_first_place c_product c__law_pick c_renamed c_form_renamed c_form_back) ((defBody x__law_right).getD 20 (.Pass ⟨0, 0, 0, 0⟩)) (B__law_right_20 c__law_take c__law_letters c__law_book c__law_told c__law_lists c_form_in c__law_form c_long_of c__law_same c__law_of c_alike_pieces c_how_often c_form_between c_stretch_of c_letter_at c_last_place c_first_place c_product c__law_pick c_renamed c_form_renamed c_form_back) := (k_set s__law_right_names_so (k_b1 ⟨g__law_right_tuple, t_tuple⟩ b_tuple (js_o (k_lc ["piece_so"] [27] (lk_by (N := N__law_right) (sc := S__law_right) (own := [("piece_so", 27)]) (ts := [27]) (by decide +kernel)) rfl rfl (ji_val (k_mv v__law_right_book_so)) (k_name (ns_by (N := N__law_right) (sc := (relS _ S__law_right)) (st := ["piece_so"]) (by decide +kernel))) jts_nil (k_b1 ⟨(by decide +kernel : glS (relS _ S__law_right) "tuple" = true), t_tuple⟩ b_tuple (js_o (k_lc ["its"] [28] (lk_by (N := N__law_right) (sc := (relS _ S__law_right)) (own := [("its", 28)]) (ts := [28]) (by decide +kernel)) rfl rfl (ji_val (k_mv (nm_by (N := N__law_right) (sc := (relS _ S__law_right)) (by decide +kernel)))) (k_name (ns_by (N := N__law_right) (sc := (relS _ (relS _ S__law_right))) (st := ["its"]) (by decide +kernel))) jts_nil (je_if (jt_val (k_isi ⟨(by decide +kernel : glS (relS _ (relS _ S__law_right)) "isinstance" = true), t_isinstance⟩ (k_mv (nm_by (N := N__law_right) (sc := (relS _ (relS _ S__law_right))) (by decide +kernel))) ⟨(by decide +kernel : glS (relS _ (relS _ S__law_right)) "int" = true), t_int⟩ (by decide)) (fun _ _ => rfl)) (k_mv (nm_by (N := N__law_right) (sc := (relS _ (relS _ S__law_right))) (by decide +kernel))) (k_call ⟨(by decide +kernel : glS (relS _ (relS _ S__law_right)) "renamed" = true), rfl, rfl⟩ (jg_v (k_mv (nm_by (N := N__law_right) (sc := (relS _ (relS _ S__law_right))) (by decide +kernel))) (jg_v (je_str (l := [97, 98, 99, 100, 101, 102, 103, 104]) (by decide +kernel) (by decide)) (jg_v (k_mv (nm_by (N := N__law_right) (sc := (relS _ (relS _ S__law_right))) (by decide +kernel))) jg_nil))) (fun _ => rfl) (fun _ => rfl))) (fun _ _ => rfl))) rfl) (fun _ _ => rfl))) rfl) (fun _ => rfl))
theorem J__law_right_21 (c__law_take c__law_letters c__law_book c__law_told c__law_lists c_form_in c__law_form c_long_of c__law_same c__law_of c_alike_pieces c_how_often c_form_between c_stretch_of c_letter_at c_last_place c_first_place c_product c__law_pick c_renamed c_form_renamed c_form_back : Fn) : JSt (Γ__law_right c__law_take c__law_letters c__law_book c__law_told c__law_lists c_form_in c__law_form c_long_of c__law_same c__law_of c_alike_pieces c_how_often c_form_between c_stretch_of c_letter_at c_last_place c_first_place c_product c__law_pick c_renamed c_form_renamed c_form_back) ((defBody x__law_right).getD 21 (.Pass ⟨0, 0, 0, 0⟩)) (B__law_right_21 c__law_take c__law_letters c__law_book c__law_told c__law_lists c_form_in c__law_form c_long_of c__law_same c__law_of c_alike_pieces c_how_often c_form_between c_stretch_of c_letter_at c_last_place c_first_place c_product c__law_pick c_renamed c_form_renamed c_form_back) := (k_set s__law_right_place_so (k_call ⟨g__law_right__law_take, rfl, rfl⟩ (k_gs v__law_right_tin (jg_v (je_op p_add (k_b1 ⟨g__law_right_len, t_len⟩ b_len (k_l v__law_right_plan_so) rfl) je_int) jg_nil)) (fun _ => rfl) (fun _ => rfl)) (fun _ => rfl))
theorem J__law_right_22 (c__law_take c__law_letters c__law_book c__law_told c__law_lists c_form_in c__law_form c_long_of c__law_same c__law_of c_alike_pieces c_how_often c_form_between c_stretch_of c_letter_at c_last_place c_first_place c_product c__law_pick c_renamed c_form_renamed c_form_back : Fn) : JSt (Γ__law_right c__law_take c__law_letters c__law_book c__law_told c__law_lists c_form_in c__law_form c_long_of c__law_same c__law_of c_alike_pieces c_how_often c_form_between c_stretch_of c_letter_at c_last_place c_first_place c_product c__law_pick c_renamed c_form_renamed c_form_back) ((defBody x__law_right).getD 22 (.Pass ⟨0, 0, 0, 0⟩)) (B__law_right_22 c__law_take c__law_letters c__law_book c__law_told c__law_lists c_form_in c__law_form c_long_of c__law_same c__law_of c_alike_pieces c_how_often c_form_between c_stretch_of c_letter_at c_last_place c_first_place c_product c__law_pick c_renamed c_form_renamed c_form_back) := (k_set s__law_right_at_so (k_call ⟨g__law_right_letter_at, rfl, rfl⟩ (jg_v (k_mv v__law_right_book_so) (jg_v (k_mv v__law_right_top_so) (jg_v (k_mv v__law_right_place_so) jg_nil))) (fun _ => rfl) (fun _ => rfl)) (fun _ => rfl))
theorem J__law_right_23 (c__law_take c__law_letters c__law_book c__law_told c__law_lists c_form_in c__law_form c_long_of c__law_same c__law_of c_alike_pieces c_how_often c_form_between c_stretch_of c_letter_at c_last_place c_first_place c_product c__law_pick c_renamed c_form_renamed c_form_back : Fn) : JSt (Γ__law_right c__law_take c__law_letters c__law_book c__law_told c__law_lists c_form_in c__law_form c_long_of c__law_same c__law_of c_alike_pieces c_how_often c_form_between c_stretch_of c_letter_at c_last_place c_first_place c_product c__law_pick c_renamed c_form_renamed c_form_back) ((defBody x__law_right).getD 23 (.Pass ⟨0, 0, 0, 0⟩)) (B__law_right_23 c__law_take c__law_letters c__law_book c__law_told c__law_lists c_form_in c__law_form c_long_of c__law_same c__law_of c_alike_pieces c_how_often c_form_between c_stretch_of c_letter_at c_last_place c_first_place c_product c__law_pick c_renamed c_form_renamed c_form_back) := (k_set s__law_right_got (je_fz (jo_lst (ja_cons (k_call ⟨g__law_right_form_in, rfl, rfl⟩ (jg_v (k_mv v__law_right_back_so) (jg_v (k_mv v__law_right_top_so) jg_nil)) (fun _ => rfl) (fun _ => rfl)) (ja_cons (k_call ⟨g__law_right_letter_at, rfl, rfl⟩ (jg_v (k_mv v__law_right_back_so) (jg_v (k_mv v__law_right_top_so) (jg_v (je_op p_sub (je_op p_sub (k_b1 ⟨g__law_right_len, t_len⟩ b_len (k_l v__law_right_plan_so) rfl) je_int) (k_mv v__law_right_place_so)) jg_nil))) (fun _ => rfl) (fun _ => rfl)) (ja_cons (k_call ⟨g__law_right_form_in, rfl, rfl⟩ (jg_v (k_mv v__law_right_names_so) (jg_v (k_mv v__law_right_top_so) jg_nil)) (fun _ => rfl) (fun _ => rfl)) (ja_cons (k_call ⟨g__law_right_letter_at, rfl, rfl⟩ (jg_v (k_mv v__law_right_names_so) (jg_v (k_mv v__law_right_top_so) (jg_v (k_mv v__law_right_place_so) jg_nil))) (fun _ => rfl) (fun _ => rfl)) ja_nil)))))) (fun _ => rfl))
theorem J__law_right_24 (c__law_take c__law_letters c__law_book c__law_told c__law_lists c_form_in c__law_form c_long_of c__law_same c__law_of c_alike_pieces c_how_often c_form_between c_stretch_of c_letter_at c_last_place c_first_place c_product c__law_pick c_renamed c_form_renamed c_form_back : Fn) : JSt (Γ__law_right c__law_take c__law_letters c__law_book c__law_told c__law_lists c_form_in c__law_form c_long_of c__law_same c__law_of c_alike_pieces c_how_often c_form_between c_stretch_of c_letter_at c_last_place c_first_place c_product c__law_pick c_renamed c_form_renamed c_form_back) ((defBody x__law_right).getD 24 (.Pass ⟨0, 0, 0, 0⟩)) (B__law_right_24 c__law_take c__law_letters c__law_book c__law_told c__law_lists c_form_in c__law_form c_long_of c__law_same c__law_of c_alike_pieces c_how_often c_form_between c_stretch_of c_letter_at c_last_place c_first_place c_product c__law_pick c_renamed c_form_renamed c_form_back) := (k_set s__law_right_due (je_fz (jo_lst (ja_cons (k_call ⟨g__law_right_form_back, rfl, rfl⟩ (jg_v (k_mv v__law_right_near) jg_nil) (fun _ => rfl) (fun _ => rfl)) (ja_cons (k_mv v__law_right_at_so) (ja_cons (k_call ⟨g__law_right_form_renamed, rfl, rfl⟩ (jg_v (k_mv v__law_right_near) (jg_v (je_str (l := [97, 98, 99, 100, 101, 102, 103, 104]) (by decide +kernel) (by decide)) (jg_v (k_mv v__law_right_after_so) jg_nil))) (fun _ => rfl) (fun _ => rfl)) (ja_cons (je_if (jt_cmp p_is (k_mv v__law_right_at_so) je_non rfl) je_non (k_ixN v__law_right_after_so (je_m1 m_index PySem.F.slot_str_index PySem.F.type_str_index (je_str (l := [97, 98, 99, 100, 101, 102, 103, 104]) (by decide +kernel) (by decide)) (k_l v__law_right_at_so) (fun _ => rfl) rfl) (fun _ _ => rfl))) ja_nil)))))) (fun _ => rfl))
theorem J__law_right_25 (c__law_take c__law_letters c__law_book c__law_told c__law_lists c_form_in c__law_form c_long_of c__law_same c__law_of c_alike_pieces c_how_often c_form_between c_stretch_of c_letter_at c_last_place c_first_place c_product c__law_pick c_renamed c_form_renamed c_form_back : Fn) : JSt (Γ__law_right c__law_take c__law_letters c__law_book c__law_told c__law_lists c_form_in c__law_form c_long_of c__law_same c__law_of c_alike_pieces c_how_often c_form_between c_stretch_of c_letter_at c_last_place c_first_place c_product c__law_pick c_renamed c_form_renamed c_form_back) ((defBody x__law_right).getD 25 (.Pass ⟨0, 0, 0, 0⟩)) (B__law_right_25 c__law_take c__law_letters c__law_book c__law_told c__law_lists c_form_in c__law_form c_long_of c__law_same c__law_of c_alike_pieces c_how_often c_form_between c_stretch_of c_letter_at c_last_place c_first_place c_product c__law_pick c_renamed c_form_renamed c_form_back) := (jst_ret (k_call ⟨g__law_right__law_same, rfl, rfl⟩ (jg_v (k_mv v__law_right_got) (jg_v (k_mv v__law_right_due) jg_nil)) (fun _ => rfl) (fun _ => rfl)))
theorem J__law_right (c__law_take c__law_letters c__law_book c__law_told c__law_lists c_form_in c__law_form c_long_of c__law_same c__law_of c_alike_pieces c_how_often c_form_between c_stretch_of c_letter_at c_last_place c_first_place c_product c__law_pick c_renamed c_form_renamed c_form_back : Fn) : JSs (Γ__law_right c__law_take c__law_letters c__law_book c__law_told c__law_lists c_form_in c__law_form c_long_of c__law_same c__law_of c_alike_pieces c_how_often c_form_between c_stretch_of c_letter_at c_last_place c_first_place c_product c__law_pick c_renamed c_form_renamed c_form_back) (defBody x__law_right) (B__law_right c__law_take c__law_letters c__law_book c__law_told c__law_lists c_form_in c__law_form c_long_of c__law_same c__law_of c_alike_pieces c_how_often c_form_between c_stretch_of c_letter_at c_last_place c_first_place c_product c__law_pick c_renamed c_form_renamed c_form_back) := (jss_cons (J__law_right_0 c__law_take c__law_letters c__law_book c__law_told c__law_lists c_form_in c__law_form c_long_of c__law_same c__law_of c_alike_pieces c_how_often c_form_between c_stretch_of c_letter_at c_last_place c_first_place c_product c__law_pick c_renamed c_form_renamed c_form_back) (jss_cons (J__law_right_1 c__law_take c__law_letters c__law_book c__law_told c__law_lists c_form_in c__law_form c_long_of c__law_same c__law_of c_alike_pieces c_how_often c_form_between c_stretch_of c_letter_at c_last_place c_first_place c_product c__law_pick c_renamed c_form_renamed c_form_back) (jss_cons (J__law_right_2 c__law_take c__law_letters c__law_book c__law_told c__law_lists c_form_in c__law_form c_long_of c__law_same c__law_of c_alike_pieces c_how_often c_form_between c_stretch_of c_letter_at c_last_place c_first_place c_product c__law_pick c_renamed c_form_renamed c_form_back) (jss_cons (J__law_right_3 c__law_take c__law_letters c__law_book c__law_told c__law_lists c_form_in c__law_form c_long_of c__law_same c__law_of c_alike_pieces c_how_often c_form_between c_stretch_of c_letter_at c_last_place c_first_place c_product c__law_pick c_renamed c_form_renamed c_form_back) (jss_cons (J__law_right_4 c__law_take c__law_letters c__law_book c__law_told c__law_lists c_form_in c__law_form c_long_of c__law_same c__law_of c_alike_pieces c_how_often c_form_between c_stretch_of c_letter_at c_last_place c_first_place c_product c__law_pick c_renamed c_form_renamed c_form_back) (jss_cons (J__law_right_5 c__law_take c__law_letters c__law_book c__law_told c__law_lists c_form_in c__law_form c_long_of c__law_same c__law_of c_alike_pieces c_how_often c_form_between c_stretch_of c_letter_at c_last_place c_first_place c_product c__law_pick c_renamed c_form_renamed c_form_back) (jss_cons (J__law_right_6 c__law_take c__law_letters c__law_book c__law_told c__law_lists c_form_in c__law_form c_long_of c__law_same c__law_of c_alike_pieces c_how_often c_form_between c_stretch_of c_letter_at c_last_place c_first_place c_product c__law_pick c_renamed c_form_renamed c_form_back) (jss_cons (J__law_right_7 c__law_take c__law_letters c__law_book c__law_told c__law_lists c_form_in c__law_form c_long_of c__law_same c__law_of c_alike_pieces c_how_often c_form_between c_stretch_of c_letter_at c_last_place c_first_place c_product c__law_pick c_renamed c_form_renamed c_form_back) (jss_cons (J__law_right_8 c__law_take c__law_letters c__law_book c__law_told c__law_lists c_form_in c__law_form c_long_of c__law_same c__law_of c_alike_pieces c_how_often c_form_between c_stretch_of c_letter_at c_last_place c_first_place c_product c__law_pick c_renamed c_form_renamed c_form_back) (jss_cons (J__law_right_9 c__law_take c__law_letters c__law_book c__law_told c__law_lists c_form_in c__law_form c_long_of c__law_same c__law_of c_alike_pieces c_how_often c_form_between c_stretch_of c_letter_at c_last_place c_first_place c_product c__law_pick c_renamed c_form_renamed c_form_back) (jss_cons (J__law_right_10 c__law_take c__law_letters c__law_book c__law_told c__law_lists c_form_in c__law_form c_long_of c__law_same c__law_of c_alike_pieces c_how_often c_form_between c_stretch_of c_letter_at c_last_place c_first_place c_product c__law_pick c_renamed c_form_renamed c_form_back) (jss_cons (J__law_right_11 c__law_take c__law_letters c__law_book c__law_told c__law_lists c_form_in c__law_form c_long_of c__law_same c__law_of c_alike_pieces c_how_often c_form_between c_stretch_of c_letter_at c_last_place c_first_place c_product c__law_pick c_renamed c_form_renamed c_form_back) (jss_cons (J__law_right_12 c__law_take c__law_letters c__law_book c__law_told c__law_lists c_form_in c__law_form c_long_of c__law_same c__law_of c_alike_pieces c_how_often c_form_between c_stretch_of c_letter_at c_last_place c_first_place c_product c__law_pick c_renamed c_form_renamed c_form_back) (jss_cons (J__law_right_13 c__law_take c__law_letters c__law_book c__law_told c__law_lists c_form_in c__law_form c_long_of c__law_same c__law_of c_alike_pieces c_how_often c_form_between c_stretch_of c_letter_at c_last_place c_first_place c_product c__law_pick c_renamed c_form_renamed c_form_back) (jss_cons (J__law_right_14 c__law_take c__law_letters c__law_book c__law_told c__law_lists c_form_in c__law_form c_long_of c__law_same c__law_of c_alike_pieces c_how_often c_form_between c_stretch_of c_letter_at c_last_place c_first_place c_product c__law_pick c_renamed c_form_renamed c_form_back) (jss_cons (J__law_right_15 c__law_take c__law_letters c__law_book c__law_told c__law_lists c_form_in c__law_form c_long_of c__law_same c__law_of c_alike_pieces c_how_often c_form_between c_stretch_of c_letter_at c_last_place c_first_place c_product c__law_pick c_renamed c_form_renamed c_form_back) (jss_cons (J__law_right_16 c__law_take c__law_letters c__law_book c__law_told c__law_lists c_form_in c__law_form c_long_of c__law_same c__law_of c_alike_pieces c_how_often c_form_between c_stretch_of c_letter_at c_last_place c_first_place c_product c__law_pick c_renamed c_form_renamed c_form_back) (jss_cons (J__law_right_17 c__law_take c__law_letters c__law_book c__law_told c__law_lists c_form_in c__law_form c_long_of c__law_same c__law_of c_alike_pieces c_how_often c_form_between c_stretch_of c_letter_at c_last_place c_first_place c_product c__law_pick c_renamed c_form_renamed c_form_back) (jss_cons (J__law_right_18 c__law_take c__law_letters c__law_book c__law_told c__law_lists c_form_in c__law_form c_long_of c__law_same c__law_of c_alike_pieces c_how_often c_form_between c_stretch_of c_letter_at c_last_place c_first_place c_product c__law_pick c_renamed c_form_renamed c_form_back) (jss_cons (J__law_right_19 c__law_take c__law_letters c__law_book c__law_told c__law_lists c_form_in c__law_form c_long_of c__law_same c__law_of c_alike_pieces c_how_often c_form_between c_stretch_of c_letter_at c_last_place c_first_place c_product c__law_pick c_renamed c_form_renamed c_form_back) (jss_cons (J__law_right_20 c__law_take c__law_letters c__law_book c__law_told c__law_lists c_form_in c__law_form c_long_of c__law_same c__law_of c_alike_pieces c_how_often c_form_between c_stretch_of c_letter_at c_last_place c_first_place c_product c__law_pick c_renamed c_form_renamed c_form_back) (jss_cons (J__law_right_21 c__law_take c__law_letters c__law_book c__law_told c__law_lists c_form_in c__law_form c_long_of c__law_same c__law_of c_alike_pieces c_how_often c_form_between c_stretch_of c_letter_at c_last_place c_first_place c_product c__law_pick c_renamed c_form_renamed c_form_back) (jss_cons (J__law_right_22 c__law_take c__law_letters c__law_book c__law_told c__law_lists c_form_in c__law_form c_long_of c__law_same c__law_of c_alike_pieces c_how_often c_form_between c_stretch_of c_letter_at c_last_place c_first_place c_product c__law_pick c_renamed c_form_renamed c_form_back) (jss_cons (J__law_right_23 c__law_take c__law_letters c__law_book c__law_told c__law_lists c_form_in c__law_form c_long_of c__law_same c__law_of c_alike_pieces c_how_often c_form_between c_stretch_of c_letter_at c_last_place c_first_place c_product c__law_pick c_renamed c_form_renamed c_form_back) (jss_cons (J__law_right_24 c__law_take c__law_letters c__law_book c__law_told c__law_lists c_form_in c__law_form c_long_of c__law_same c__law_of c_alike_pieces c_how_often c_form_between c_stretch_of c_letter_at c_last_place c_first_place c_product c__law_pick c_renamed c_form_renamed c_form_back) (jss_cons (J__law_right_25 c__law_take c__law_letters c__law_book c__law_told c__law_lists c_form_in c__law_form c_long_of c__law_same c__law_of c_alike_pieces c_how_often c_form_between c_stretch_of c_letter_at c_last_place c_first_place c_product c__law_pick c_renamed c_form_renamed c_form_back) jss_nil))))))))))))))))))))))))))
/-! law -/
abbrev x_law : Stmt := topS 52
abbrev S_law : Scope := defScope x_law
def N_law : List Str := ["script", "cells_so", "k", "tin", "lap"]
def T_law : List Str := ["script", "cells_so", "k", "tin"]
theorem sc_law : FnScope N_law ["script"] S_law := ⟨rfl, rfl, rfl, by decide +kernel, rfl, by decide +kernel, by decide +kernel⟩
theorem v_law_script : Nm N_law S_law 0 "script" := nm_by (by decide +kernel)
theorem g_law__law_cells : glS S_law "_law_cells" = true := by decide +kernel
theorem s_law_cells_so : Ns N_law S_law T_law 1 "cells_so" := ns_by (by decide +kernel)
theorem v_law_cells_so : Nm N_law S_law 1 "cells_so" := nm_by (by decide +kernel)
theorem g_law_len : glS S_law "len" = true := by decide +kernel
theorem g_law_range : glS S_law "range" = true := by decide +kernel
theorem s_law_k : Ns N_law S_law T_law 2 "k" := ns_by (by decide +kernel)
theorem g_law_all : glS S_law "all" = true := by decide +kernel
theorem v_law_k : Nm N_law S_law 2 "k" := nm_by (by decide +kernel)
theorem g_law__law_box : glS S_law "_law_box" = true := by decide +kernel
theorem s_law_tin : Ns N_law S_law T_law 3 "tin" := ns_by (by decide +kernel)
abbrev Γ_law (c__law_cells c__law_right c__law_box : Fn) : Gm := ⟨N_law, S_law, T_law, BI, [("_law_cells", c__law_cells), ("_law_right", c__law_right), ("_law_box", c__law_box)], []⟩
theorem J_law (c__law_cells c__law_right c__law_box : Fn) : JSs (Γ_law c__law_cells c__law_right c__law_box) (defBody x_law) (B_law c__law_cells c__law_right c__law_box) := (jss_cons (k_set s_law_cells_so (je_fz (k_callO ⟨g_law__law_cells, rfl, rfl⟩ (jg_v (k_mv v_law_script) (jg_v je_int jg_nil)) (fun _ => rfl) (fun _ => rfl))) (fun _ => rfl)) (jss_cons (jst_for (k_range1 ⟨g_law_range, t_range⟩ (k_b1 ⟨g_law_len, t_len⟩ b_len (k_l v_law_cells_so) rfl)) (k_name s_law_k) (jss_cons (k_own s_law_tin (k_callO ⟨g_law__law_box, rfl, rfl⟩ (jg_v (k_mv v_law_cells_so) (jg_v (k_mv v_law_k) jg_nil)) (fun _ => rfl) (fun _ => rfl)) rfl) (jss_cons (jst_if (jt_not (jt_val (k_b1 ⟨g_law_all, t_all⟩ b_all (js_o (k_lc ["lap"] [4] (lk_by (N := N_law) (sc := S_law) (own := [("lap", 4)]) (ts := [4]) (by decide +kernel)) rfl rfl (k_range1 ⟨g_law_range, t_range⟩ je_int) (k_name (ns_by (N := N_law) (sc := (relS _ S_law)) (st := ["lap"]) (by decide +kernel))) jts_nil (k_call ⟨(by decide +kernel : glS (relS _ S_law) "_law_right" = true), rfl, rfl⟩ (k_gs (nm_by (N := N_law) (sc := (relS _ S_law)) (by decide +kernel)) jg_nil) (fun _ => rfl) (fun _ => rfl)) (fun _ _ => rfl))) rfl) (fun _ _ => rfl))) (jss_cons (jst_ret je_bl) jss_nil) jss_nil) jss_nil)) (fun _ _ => rfl)) (jss_cons (jst_ret je_bl) jss_nil)))
end DG

end
set_option Elab.async false
set_option linter.all false
set_option maxRecDepth 100000
open PySem PySem.W PyProof.Rows
set_option maxHeartbeats 0 in
theorem PySem.Challenge.cw_donetwice_k82_main_books_multiplied_and_holds : PySem.Challenge.rw_donetwice_k82_main_books_multiplied_and.Holds := by
  w_on; o_law; k_head; (case hw => w_witness2)
  k_fill
  refine L2.walk_ofB (l := PySem.Challenge.rw_donetwice_k82_main_books_multiplied_and) (n := 63) (k := 136) (x := "script") (CX := fun _ => L2.CX0) (sp := fun w => DD.spF _ 1 DG.V_law) rfl (by decide) rfl ⟨rfl, by decide, by decide⟩ (fun w h Y => PySem.W.kIn_of Y) ?F (fun w H a ns hl hb hO hS => DD.sp_law hO hS (DG.law_at hl)) (fun _ _ _ _ _ h => h)
  case F =>
    intro w mg fa h KX G hmg
    refine' DD.thenn (DD.df_mk (x := "news") (st := DG.x_news) (ps := ["plan"]) KX G ?b0 ?a0 ?l0 ?c0 ?k0) ?_
    (case b0 => exact fun _ _ _ _ _ _ us hl => match us, hl with | [_], _ => rfl); (case a0 => k_is); (case l0 => k_is); (case c0 => k_is); (case k0 => k_is)
    intro d_news
    refine' DD.thenn (DD.df_mk (x := "gones") (st := DG.x_gones) (ps := ["plan"]) KX G ?b1 ?a1 ?l1 ?c1 ?k1) ?_
    (case b1 => exact fun _ _ _ _ _ _ us hl => match us, hl with | [_], _ => rfl); (case a1 => k_is); (case l1 => k_is); (case c1 => k_is); (case k1 => k_is)
    intro d_gones
    refine' DD.thenn (DD.df_mk (x := "check_some") (st := DG.x_check_some) (ps := ["plan"]) KX G ?b2 ?a2 ?l2 ?c2 ?k2) ?_
    (case b2 => exact fun _ _ _ _ _ _ us hl => match us, hl with | [_], _ => rfl); (case a2 => k_is); (case l2 => k_is); (case c2 => k_is); (case k2 => k_is)
    intro d_check_some
    refine' DD.thenn (DD.df_mk (x := "last_new") (st := DG.x_last_new) (ps := ["plan"]) KX G ?b3 ?a3 ?l3 ?c3 ?k3) ?_
    (case b3 => exact fun _ _ _ _ _ _ us hl => match us, hl with | [_], _ => rfl); (case a3 => k_is); (case l3 => k_is); (case c3 => k_is); (case k3 => k_is)
    intro d_last_new
    refine' DD.thenn (DD.df_mk (x := "first_gone") (st := DG.x_first_gone) (ps := ["plan"]) KX G ?b4 ?a4 ?l4 ?c4 ?k4) ?_
    (case b4 => exact fun _ _ _ _ _ _ us hl => match us, hl with | [_], _ => rfl); (case a4 => k_is); (case l4 => k_is); (case c4 => k_is); (case k4 => k_is)
    intro d_first_gone
    refine' DD.thenn (DD.df_mk (x := "check_names") (st := DG.x_check_names) (ps := ["plan", "before", "after"]) KX G ?b5 ?a5 ?l5 ?c5 ?k5) ?_
    (case b5 => exact fun _ _ _ _ _ _ us hl => match us, hl with | [_, _, _], _ => rfl); (case a5 => k_is); (case l5 => k_is); (case c5 => k_is); (case k5 => k_is)
    intro d_check_names
    refine' DD.thenn (DD.df_mk (x := "renamed") (st := DG.x_renamed) (ps := ["plan", "before", "after"]) KX G ?b6 ?a6 ?l6 ?c6 ?k6) ?_
    (case b6 => exact fun _ _ _ _ _ _ us hl => match us, hl with | [_, _, _], _ => rfl); (case a6 => k_is); (case l6 => k_is); (case c6 => k_is); (case k6 => k_is)
    intro d_renamed
    refine' DD.thenn (DD.df_mk (x := "form_by") (st := DG.x_form_by) (ps := ["plan", "known"]) KX G ?b7 ?a7 ?l7 ?c7 ?k7) ?_
    (case b7 => exact fun _ _ _ _ _ _ us hl => match us, hl with | [_, _], _ => rfl); (case a7 => k_is); (case l7 => k_is); (case c7 => k_is); (case k7 => k_is)
    intro d_form_by
    refine' DD.thenn (DD.df_mk (x := "form_of") (st := DG.x_form_of) (ps := ["plan"]) KX G ?b8 ?a8 ?l8 ?c8 ?k8) ?_
    (case b8 => exact fun _ _ _ _ _ _ us hl => match us, hl with | [_], _ => rfl); (case a8 => k_is); (case l8 => k_is); (case c8 => k_is); (case k8 => k_is)
    intro d_form_of
    refine' DD.thenn (DD.df_mk (x := "plan_by") (st := DG.x_plan_by) (ps := ["form"]) KX G ?b9 ?a9 ?l9 ?c9 ?k9) ?_
    (case b9 => exact fun _ _ _ _ _ _ us hl => match us, hl with | [_], _ => rfl); (case a9 => k_is); (case l9 => k_is); (case c9 => k_is); (case k9 => k_is)
    intro d_plan_by
    refine' DD.thenn (DD.df_mk (x := "plan_of") (st := DG.x_plan_of) (ps := ["form"]) KX G ?b10 ?a10 ?l10 ?c10 ?k10) ?_
    (case b10 => exact fun _ _ _ _ _ _ us hl => match us, hl with | [_], _ => rfl); (case a10 => k_is); (case l10 => k_is); (case c10 => k_is); (case k10 => k_is)
    intro d_plan_of
    refine' DD.thenn (DD.df_mk (x := "product") (st := DG.x_product) (ps := ["one", "other"]) KX G ?b11 ?a11 ?l11 ?c11 ?k11) ?_
    (case b11 => exact fun _ _ _ _ _ _ us hl => match us, hl with | [_, _], _ => rfl); (case a11 => k_is); (case l11 => k_is); (case c11 => k_is); (case k11 => k_is)
    intro d_product
    refine' DD.thenn (DD.df_mk (x := "form_back") (st := DG.x_form_back) (ps := ["form"]) KX G ?b12 ?a12 ?l12 ?c12 ?k12) ?_
    (case b12 => exact fun _ _ _ _ _ _ us hl => match us, hl with | [_], _ => rfl); (case a12 => k_is); (case l12 => k_is); (case c12 => k_is); (case k12 => k_is)
    intro d_form_back
    refine' DD.thenn (DD.df_mk (x := "form_renamed") (st := DG.x_form_renamed) (ps := ["form", "before", "after"]) KX G ?b13 ?a13 ?l13 ?c13 ?k13) ?_
    (case b13 => exact fun _ _ _ _ _ _ us hl => match us, hl with | [_, _, _], _ => rfl); (case a13 => k_is); (case l13 => k_is); (case c13 => k_is); (case k13 => k_is)
    intro d_form_renamed
    refine' DD.thenn (DD.df_mk (x := "check_piece") (st := DG.x_check_piece) (ps := ["book", "piece"]) KX G ?b14 ?a14 ?l14 ?c14 ?k14) ?_
    (case b14 => exact fun _ _ _ _ _ _ us hl => match us, hl with | [_, _], _ => rfl); (case a14 => k_is); (case l14 => k_is); (case c14 => k_is); (case k14 => k_is)
    intro d_check_piece
    refine' DD.thenn (DD.df_mk (x := "longs_of") (st := DG.x_longs_of) (ps := ["book"]) KX G ?b15 ?a15 ?l15 ?c15 ?k15) ?_
    (case b15 => exact fun _ _ _ _ _ _ us hl => match us, hl with | [_], _ => rfl); (case a15 => k_is); (case l15 => k_is); (case c15 => k_is); (case k15 => k_is)
    intro d_longs_of
    refine' DD.thenn (DD.df_mk (x := "long_of") (st := DG.x_long_of) (ps := ["book", "piece"]) KX G ?b16 ?a16 ?l16 ?c16 ?k16) ?_
    (case b16 => exact fun _ _ _ _ _ _ us hl => match us, hl with | [_, _], _ => rfl); (case a16 => k_is); (case l16 => k_is); (case c16 => k_is); (case k16 => k_is)
    intro d_long_of
    refine' DD.thenn (DD.df_mk (x := "how_often") (st := DG.x_how_often) (ps := ["book", "piece", "letter"]) KX G ?b17 ?a17 ?l17 ?c17 ?k17) ?_
    (case b17 => exact fun _ _ _ _ _ _ us hl => match us, hl with | [_, _, _], _ => rfl); (case a17 => k_is); (case l17 => k_is); (case c17 => k_is); (case k17 => k_is)
    intro d_how_often
    refine' DD.thenn (DD.df_mk (x := "forms_of") (st := DG.x_forms_of) (ps := ["book"]) KX G ?b18 ?a18 ?l18 ?c18 ?k18) ?_
    (case b18 => exact fun _ _ _ _ _ _ us hl => match us, hl with | [_], _ => rfl); (case a18 => k_is); (case l18 => k_is); (case c18 => k_is); (case k18 => k_is)
    intro d_forms_of
    refine' DD.thenn (DD.df_mk (x := "form_in") (st := DG.x_form_in) (ps := ["book", "piece"]) KX G ?b19 ?a19 ?l19 ?c19 ?k19) ?_
    (case b19 => exact fun _ _ _ _ _ _ us hl => match us, hl with | [_, _], _ => rfl); (case a19 => k_is); (case l19 => k_is); (case c19 => k_is); (case k19 => k_is)
    intro d_form_in
    refine' DD.thenn (DD.df_mk (x := "alike_pieces") (st := DG.x_alike_pieces) (ps := ["book", "one", "other"]) KX G ?b20 ?a20 ?l20 ?c20 ?k20) ?_
    (case b20 => exact fun _ _ _ _ _ _ us hl => match us, hl with | [_, _, _], _ => rfl); (case a20 => k_is); (case l20 => k_is); (case c20 => k_is); (case k20 => k_is)
    intro d_alike_pieces
    refine' DD.thenn (DD.df_mk (x := "cut_to") (st := DG.x_cut_to) (ps := ["part", "longs", "begin", "first", "last"]) KX G ?b21 ?a21 ?l21 ?c21 ?k21) ?_
    (case b21 => exact fun _ _ _ _ _ _ us hl => match us, hl with | [_, _, _, _, _], _ => rfl); (case a21 => k_is); (case l21 => k_is); (case c21 => k_is); (case k21 => k_is)
    intro d_cut_to
    refine' DD.thenn (DD.df_mk (x := "stretch_in") (st := DG.x_stretch_in) (ps := ["book", "longs", "piece", "first", "last"]) KX G ?b22 ?a22 ?l22 ?c22 ?k22) ?_
    (case b22 => exact fun _ _ _ _ _ _ us hl => match us, hl with | [_, _, _, _, _], _ => rfl); (case a22 => k_is); (case l22 => k_is); (case c22 => k_is); (case k22 => k_is)
    intro d_stretch_in
    refine' DD.thenn (DD.df_mk (x := "stretch_of") (st := DG.x_stretch_of) (ps := ["book", "piece", "first", "many"]) KX G ?b23 ?a23 ?l23 ?c23 ?k23) ?_
    (case b23 => exact fun _ _ _ _ _ _ us hl => match us, hl with | [_, _, _, _], _ => rfl); (case a23 => k_is); (case l23 => k_is); (case c23 => k_is); (case k23 => k_is)
    intro d_stretch_of
    refine' DD.thenn (DD.df_mk (x := "letter_at") (st := DG.x_letter_at) (ps := ["book", "piece", "place"]) KX G ?b24 ?a24 ?l24 ?c24 ?k24) ?_
    (case b24 => exact fun _ _ _ _ _ _ us hl => match us, hl with | [_, _, _], _ => rfl); (case a24 => k_is); (case l24 => k_is); (case c24 => k_is); (case k24 => k_is)
    intro d_letter_at
    refine' DD.thenn (DD.df_mk (x := "first_place") (st := DG.x_first_place) (ps := ["book", "piece", "letter"]) KX G ?b25 ?a25 ?l25 ?c25 ?k25) ?_
    (case b25 => exact fun _ _ _ _ _ _ us hl => match us, hl with | [_, _, _], _ => rfl); (case a25 => k_is); (case l25 => k_is); (case c25 => k_is); (case k25 => k_is)
    intro d_first_place
    refine' DD.thenn (DD.df_mk (x := "last_place") (st := DG.x_last_place) (ps := ["book", "piece", "letter"]) KX G ?b26 ?a26 ?l26 ?c26 ?k26) ?_
    (case b26 => exact fun _ _ _ _ _ _ us hl => match us, hl with | [_, _, _], _ => rfl); (case a26 => k_is); (case l26 => k_is); (case c26 => k_is); (case k26 => k_is)
    intro d_last_place
    refine' DD.thenn (DD.df_mk (x := "form_in_stretch") (st := DG.x_form_in_stretch) (ps := ["book", "known", "piece", "first", "last"]) KX G ?b27 ?a27 ?l27 ?c27 ?k27) ?_
    (case b27 => exact fun _ _ _ _ _ _ us hl => match us, hl with | [_, _, _, _, _], _ => rfl); (case a27 => k_is); (case l27 => k_is); (case c27 => k_is); (case k27 => k_is)
    intro d_form_in_stretch
    refine' DD.thenn (DD.df_mk (x := "form_between") (st := DG.x_form_between) (ps := ["book", "piece", "first", "last"]) KX G ?b28 ?a28 ?l28 ?c28 ?k28) ?_
    (case b28 => exact fun _ _ _ _ _ _ us hl => match us, hl with | [_, _, _, _], _ => rfl); (case a28 => k_is); (case l28 => k_is); (case c28 => k_is); (case k28 => k_is)
    intro d_form_between
    refine' DD.thenn (DD.df_mk (x := "_law_box") (st := DG.x__law_box) (ps := ["script", "k"]) KX G ?b29 ?a29 ?l29 ?c29 ?k29) ?_
    (case b29 => exact fun _ _ _ _ _ _ us hl => match us, hl with | [_, _], _ => rfl); (case a29 => k_is); (case l29 => k_is); (case c29 => k_is); (case k29 => k_is)
    intro d__law_box
    refine' DD.thenn (DD.df_mk (x := "_law_take") (st := DG.x__law_take) (ps := ["tin", "below_so"]) KX G ?b30 ?a30 ?l30 ?c30 ?k30) ?_
    (case b30 => exact fun _ _ _ _ _ _ us hl => match us, hl with | [_, _], _ => rfl); (case a30 => k_is); (case l30 => k_is); (case c30 => k_is); (case k30 => k_is)
    intro d__law_take
    refine' DD.thenn (DD.df_mk (x := "_law_cells") (st := DG.x__law_cells) (ps := ["script", "most_so"]) KX G ?b31 ?a31 ?l31 ?c31 ?k31) ?_
    (case b31 => exact fun _ _ _ _ _ _ us hl => match us, hl with | [_, _], _ => rfl); (case a31 => k_is); (case l31 => k_is); (case c31 => k_is); (case k31 => k_is)
    intro d__law_cells
    refine' DD.thenn (DD.df_mk (x := "_law_of") (st := DG.x__law_of) (ps := ["tin", "goods_so"]) KX G ?b32 ?a32 ?l32 ?c32 ?k32) ?_
    (case b32 => exact fun _ _ _ _ _ _ us hl => match us, hl with | [_, _], _ => rfl); (case a32 => k_is); (case l32 => k_is); (case c32 => k_is); (case k32 => k_is)
    intro d__law_of
    refine' DD.thenn (DD.df_mk (x := "_law_pick") (st := DG.x__law_pick) (ps := ["tin", "goods_so", "count_so"]) KX G ?b33 ?a33 ?l33 ?c33 ?k33) ?_
    (case b33 => exact fun _ _ _ _ _ _ us hl => match us, hl with | [_, _, _], _ => rfl); (case a33 => k_is); (case l33 => k_is); (case c33 => k_is); (case k33 => k_is)
    intro d__law_pick
    refine' DD.thenn (DD.df_mk (x := "_law_lists") (st := DG.x__law_lists) (ps := ["matter"]) KX G ?b34 ?a34 ?l34 ?c34 ?k34) ?_
    (case b34 => exact fun _ _ _ _ _ _ us hl => match us, hl with | [_], _ => rfl); (case a34 => k_is); (case l34 => k_is); (case c34 => k_is); (case k34 => k_is)
    intro d__law_lists
    refine' DD.thenn (DD.df_mk (x := "_law_same") (st := DG.x__law_same) (ps := ["got", "due"]) KX G ?b35 ?a35 ?l35 ?c35 ?k35) ?_
    (case b35 => exact fun _ _ _ _ _ _ us hl => match us, hl with | [_, _], _ => rfl); (case a35 => k_is); (case l35 => k_is); (case c35 => k_is); (case k35 => k_is)
    intro d__law_same
    refine' DD.thenn (DD.df_mk (x := "_law_letters") (st := DG.x__law_letters) (ps := ["tin", "many_so"]) KX G ?b36 ?a36 ?l36 ?c36 ?k36) ?_
    (case b36 => exact fun _ _ _ _ _ _ us hl => match us, hl with | [_, _], _ => rfl); (case a36 => k_is); (case l36 => k_is); (case c36 => k_is); (case k36 => k_is)
    intro d__law_letters
    refine' DD.thenn (DD.df_mk (x := "_law_plan") (st := DG.x__law_plan) (ps := ["tin", "letters_so", "long_so"]) KX G ?b37 ?a37 ?l37 ?c37 ?k37) ?_
    (case b37 => exact fun _ _ _ _ _ _ us hl => match us, hl with | [_, _, _], _ => rfl); (case a37 => k_is); (case l37 => k_is); (case c37 => k_is); (case k37 => k_is)
    intro d__law_plan
    refine' DD.thenn (DD.df_mk (x := "_law_last_new") (st := DG.x__law_last_new) (ps := ["plan_so"]) KX G ?b38 ?a38 ?l38 ?c38 ?k38) ?_
    (case b38 => exact fun _ _ _ _ _ _ us hl => match us, hl with | [_], _ => rfl); (case a38 => k_is); (case l38 => k_is); (case c38 => k_is); (case k38 => k_is)
    intro d__law_last_new
    refine' DD.thenn (DD.df_mk (x := "_law_form") (st := DG.x__law_form) (ps := ["plan_so"]) KX G ?b39 ?a39 ?l39 ?c39 ?k39) ?_
    (case b39 => exact fun _ _ _ _ _ _ us hl => match us, hl with | [_], _ => rfl); (case a39 => k_is); (case l39 => k_is); (case c39 => k_is); (case k39 => k_is)
    intro d__law_form
    refine' DD.thenn (DD.df_mk (x := "_law_book") (st := DG.x__law_book) (ps := ["tin", "letters_so"]) KX G ?b40 ?a40 ?l40 ?c40 ?k40) ?_
    (case b40 => exact fun _ _ _ _ _ _ us hl => match us, hl with | [_, _], _ => rfl); (case a40 => k_is); (case l40 => k_is); (case c40 => k_is); (case k40 => k_is)
    intro d__law_book
    refine' DD.thenn (DD.df_mk (x := "_law_told") (st := DG.x__law_told) (ps := ["book_so", "piece_so"]) KX G ?b41 ?a41 ?l41 ?c41 ?k41) ?_
    (case b41 => exact fun _ _ _ _ _ _ us hl => match us, hl with | [_, _], _ => rfl); (case a41 => k_is); (case l41 => k_is); (case c41 => k_is); (case k41 => k_is)
    intro d__law_told
    refine' DD.thenn (DD.df_mk (x := "_law_right") (st := DG.x__law_right) (ps := ["tin"]) KX G ?b42 ?a42 ?l42 ?c42 ?k42) ?_
    (case b42 => exact fun _ _ _ _ _ _ us hl => match us, hl with | [_], _ => rfl); (case a42 => k_is); (case l42 => k_is); (case c42 => k_is); (case k42 => k_is)
    intro d__law_right
    refine' DD.thenn (DD.dfL_mk (x := "law") (st := DG.x_law) (ps := ["script"]) KX G ?b43 ?a43 ?l43 ?c43 ?k43) ?_
    (case b43 => exact fun _ _ _ _ _ _ us hl => match us, hl with | [_], _ => rfl); (case a43 => k_is); (case l43 => k_is); (case c43 => k_is); (case k43 => k_is)
    intro d_law
    have bis : DD.AllQ (fun x => mg x = none) DG.BI := by
      refine' ⟨?_, ?_, ?_, ?_, ?_, ?_, ?_, ?_, ?_, ?_, ?_, ?_, ?_, ?_, ?_, ?_, ?_, trivial⟩
      all_goals (refine' PySem.W.mg_none_of KX G ?z; (case z => k_is))
    refine DD.law_F (Γ := DG.Γ_law DG.V__law_cells DG.V__law_right DG.V__law_box) d_law hmg DG.sc_law rfl rfl bis trivial (DG.J_law DG.V__law_cells DG.V__law_right DG.V__law_box) fun base KB GB => ?_
    clear KX G
    have k__law_cells : DD.Kn PySem.Challenge.rw_donetwice_k82_main_books_multiplied_and.prog w _ mg base 1 "_law_cells" DG.V__law_cells := DD.kn_df (Γ := DG.Γ__law_cells) d__law_cells DG.sc__law_cells rfl rfl bis trivial trivial (DG.J__law_cells) (fun _ _ h => h)
    have k__law_take : DD.Kn PySem.Challenge.rw_donetwice_k82_main_books_multiplied_and.prog w _ mg base 1 "_law_take" DG.G_take := DD.kn_df (Γ := DG.Γ__law_take) d__law_take DG.sc__law_take rfl rfl bis trivial trivial (DG.J__law_take) (fun _ _ h => h)
    have k__law_pick : DD.Kn PySem.Challenge.rw_donetwice_k82_main_books_multiplied_and.prog w _ mg base 2 "_law_pick" DG.G_pick := DD.kn_df (Γ := DG.Γ__law_pick DG.G_take) d__law_pick DG.sc__law_pick rfl rfl bis ⟨(k__law_take.mono (by omega)), trivial⟩ trivial (DG.J__law_pick DG.G_take) (fun _ _ h => h)
    have k__law_letters : DD.Kn PySem.Challenge.rw_donetwice_k82_main_books_multiplied_and.prog w _ mg base 3 "_law_letters" DG.G_letters := DD.kn_df (Γ := DG.Γ__law_letters DG.G_pick) d__law_letters DG.sc__law_letters rfl rfl bis ⟨(k__law_pick.mono (by omega)), trivial⟩ trivial (DG.J__law_letters DG.G_pick) (fun _ _ h => h)
    have k__law_of : DD.Kn PySem.Challenge.rw_donetwice_k82_main_books_multiplied_and.prog w _ mg base 2 "_law_of" DG.G_of := DD.kn_df (Γ := DG.Γ__law_of DG.G_take) d__law_of DG.sc__law_of rfl rfl bis ⟨(k__law_take.mono (by omega)), trivial⟩ trivial (DG.J__law_of DG.G_take) (fun _ _ h => h)
    have k__law_plan : DD.Kn PySem.Challenge.rw_donetwice_k82_main_books_multiplied_and.prog w _ mg base 3 "_law_plan" DG.G_plan := DD.kn_df (Γ := DG.Γ__law_plan DG.G_take DG.G_of) d__law_plan DG.sc__law_plan rfl rfl bis ⟨(k__law_take.mono (by omega)), (k__law_of.mono (by omega)), trivial⟩ trivial (DG.J__law_plan DG.G_take DG.G_of) (fun _ _ h => h)
    have k__law_book : DD.Kn PySem.Challenge.rw_donetwice_k82_main_books_multiplied_and.prog w _ mg base 4 "_law_book" DG.V__law_book := DD.kn_df (Γ := DG.Γ__law_book DG.G_take DG.G_plan) d__law_book DG.sc__law_book rfl rfl bis ⟨(k__law_take.mono (by omega)), (k__law_plan.mono (by omega)), trivial⟩ trivial (DG.J__law_book DG.G_take DG.G_plan) (fun _ _ h => h)
    have kg__law_told : ∀ n, DD.Kn PySem.Challenge.rw_donetwice_k82_main_books_multiplied_and.prog w _ mg base (0 + n) "_law_told" (DG.V__law_told n) := fun n => by
      induction n with
      | zero => exact (by rw [DG.V__law_told_z]; exact DD.kn_never d__law_told)
      | succ m ih => exact (by rw [DG.V__law_told_s]; exact DD.kn_df (k := 0 + m) (Γ := DG.Γ__law_told (DG.V__law_told m)) d__law_told DG.sc__law_told rfl rfl bis ⟨ih, trivial⟩ trivial (DG.J__law_told (DG.V__law_told m)) (fun _ _ h => h))
    have k__law_told := (kg__law_told 12)
    have kg__law_lists : ∀ n, DD.Kn PySem.Challenge.rw_donetwice_k82_main_books_multiplied_and.prog w _ mg base (0 + n) "_law_lists" (DG.V__law_lists n) := fun n => by
      induction n with
      | zero => exact (by rw [DG.V__law_lists_z]; exact DD.kn_never d__law_lists)
      | succ m ih => exact (by rw [DG.V__law_lists_s]; exact DD.kn_df (k := 0 + m) (Γ := DG.Γ__law_lists (DG.V__law_lists m)) d__law_lists DG.sc__law_lists rfl rfl bis ⟨ih, trivial⟩ trivial (DG.J__law_lists (DG.V__law_lists m)) (fun _ _ h => h))
    have k__law_lists := (kg__law_lists 12)
    have k_check_piece : DD.Kn PySem.Challenge.rw_donetwice_k82_main_books_multiplied_and.prog w _ mg base 1 "check_piece" DG.V_check_piece := DD.kn_df (Γ := DG.Γ_check_piece) d_check_piece DG.sc_check_piece rfl rfl bis trivial trivial (DG.J_check_piece) (fun _ _ h => h)
    have k_check_some : DD.Kn PySem.Challenge.rw_donetwice_k82_main_books_multiplied_and.prog w _ mg base 1 "check_some" DG.G_check_some := DD.kn_df (Γ := DG.Γ_check_some) d_check_some DG.sc_check_some rfl rfl bis trivial trivial (DG.J_check_some) DG.le_check_some
    have k_news : DD.Kn PySem.Challenge.rw_donetwice_k82_main_books_multiplied_and.prog w _ mg base 1 "news" DG.G_news := DD.kn_df (Γ := DG.Γ_news) d_news DG.sc_news rfl rfl bis trivial trivial (DG.J_news) DG.le_news
    have k_gones : DD.Kn PySem.Challenge.rw_donetwice_k82_main_books_multiplied_and.prog w _ mg base 2 "gones" DG.G_gones := DD.kn_df (Γ := DG.Γ_gones DG.G_news) d_gones DG.sc_gones rfl rfl bis ⟨(k_news.mono (by omega)), trivial⟩ trivial (DG.J_gones DG.G_news) DG.le_gones
    have k_first_gone : DD.Kn PySem.Challenge.rw_donetwice_k82_main_books_multiplied_and.prog w _ mg base 3 "first_gone" DG.G_first_gone := DD.kn_df (Γ := DG.Γ_first_gone DG.G_check_some DG.G_gones) d_first_gone DG.sc_first_gone rfl rfl bis ⟨(k_check_some.mono (by omega)), (k_gones.mono (by omega)), trivial⟩ trivial (DG.J_first_gone DG.G_check_some DG.G_gones) DG.le_first_gone
    have k_last_new : DD.Kn PySem.Challenge.rw_donetwice_k82_main_books_multiplied_and.prog w _ mg base 2 "last_new" DG.G_last_new := DD.kn_df (Γ := DG.Γ_last_new DG.G_check_some DG.G_news) d_last_new DG.sc_last_new rfl rfl bis ⟨(k_check_some.mono (by omega)), (k_news.mono (by omega)), trivial⟩ trivial (DG.J_last_new DG.G_check_some DG.G_news) DG.le_last_new
    have k_form_by := DD.kn_rec (P := PySem.Challenge.rw_donetwice_k82_main_books_multiplied_and.prog) (w := w) (base := base) (G := DG.G_form_by) d_form_by 4 (DD.kn_df (Γ := DG.Γ_form_by DG.G_none DG.G_first_gone DG.G_last_new) d_form_by DG.sc_form_by rfl rfl bis ⟨(DD.kn_never d_form_by), (k_first_gone.mono (by omega)), (k_last_new.mono (by omega)), trivial⟩ trivial (DG.J_form_by DG.G_none DG.G_first_gone DG.G_last_new) DG.zero_form_by) (fun m ih => DD.kn_df (Γ := DG.Γ_form_by (DG.G_form_by m) DG.G_first_gone DG.G_last_new) d_form_by DG.sc_form_by rfl rfl bis ⟨ih, (k_first_gone.mono (by omega)), (k_last_new.mono (by omega)), trivial⟩ trivial (DG.J_form_by (DG.G_form_by m) DG.G_first_gone DG.G_last_new) (DG.le_form_by m)) 12
    have k_form_of : DD.Kn PySem.Challenge.rw_donetwice_k82_main_books_multiplied_and.prog w _ mg base 17 "form_of" DG.G_form_of := DD.kn_df (Γ := DG.Γ_form_of (DG.G_form_by 12)) d_form_of DG.sc_form_of rfl rfl bis ⟨(k_form_by.mono (by omega)), trivial⟩ trivial (DG.J_form_of (DG.G_form_by 12)) DG.le_form_of
    have k_plan_by := DD.kn_rec (P := PySem.Challenge.rw_donetwice_k82_main_books_multiplied_and.prog) (w := w) (base := base) (G := DG.G_plan_by) d_plan_by 1 (DD.kn_df (Γ := DG.Γ_plan_by DG.G_none) d_plan_by DG.sc_plan_by rfl rfl bis ⟨(DD.kn_never d_plan_by), trivial⟩ trivial (DG.J_plan_by DG.G_none) DG.zero_plan_by) (fun m ih => DD.kn_df (Γ := DG.Γ_plan_by (DG.G_plan_by m)) d_plan_by DG.sc_plan_by rfl rfl bis ⟨ih, trivial⟩ trivial (DG.J_plan_by (DG.G_plan_by m)) (DG.le_plan_by m)) 14
    have k_plan_of : DD.Kn PySem.Challenge.rw_donetwice_k82_main_books_multiplied_and.prog w _ mg base 16 "plan_of" DG.G_plan_of := DD.kn_df (Γ := DG.Γ_plan_of (DG.G_plan_by 14)) d_plan_of DG.sc_plan_of rfl rfl bis ⟨(k_plan_by.mono (by omega)), trivial⟩ trivial (DG.J_plan_of (DG.G_plan_by 14)) DG.le_plan_of
    have k_product : DD.Kn PySem.Challenge.rw_donetwice_k82_main_books_multiplied_and.prog w _ mg base 18 "product" DG.G_product := DD.kn_df (Γ := DG.Γ_product DG.G_plan_of DG.G_form_of) d_product DG.sc_product rfl rfl bis ⟨(k_plan_of.mono (by omega)), (k_form_of.mono (by omega)), trivial⟩ trivial (DG.J_product DG.G_plan_of DG.G_form_of) DG.le_product
    have k_forms_of : DD.Kn PySem.Challenge.rw_donetwice_k82_main_books_multiplied_and.prog w _ mg base 19 "forms_of" DG.V_forms_of := DD.kn_df (Γ := DG.Γ_forms_of DG.G_form_of DG.G_product) d_forms_of DG.sc_forms_of rfl rfl bis ⟨(k_form_of.mono (by omega)), (k_product.mono (by omega)), trivial⟩ trivial (DG.J_forms_of DG.G_form_of DG.G_product) (fun _ _ h => h)
    have k_form_in : DD.Kn PySem.Challenge.rw_donetwice_k82_main_books_multiplied_and.prog w _ mg base 20 "form_in" DG.V_form_in := DD.kn_df (Γ := DG.Γ_form_in DG.V_check_piece DG.V_forms_of) d_form_in DG.sc_form_in rfl rfl bis ⟨(k_check_piece.mono (by omega)), (k_forms_of.mono (by omega)), trivial⟩ trivial (DG.J_form_in DG.V_check_piece DG.V_forms_of) (fun _ _ h => h)
    have k__law_last_new : DD.Kn PySem.Challenge.rw_donetwice_k82_main_books_multiplied_and.prog w _ mg base 1 "_law_last_new" DG.G_lnew := DD.kn_df (Γ := DG.Γ__law_last_new) d__law_last_new DG.sc__law_last_new rfl rfl bis trivial trivial (DG.J__law_last_new) (fun _ _ h => h)
    have k__law_form := DD.kn_rec (P := PySem.Challenge.rw_donetwice_k82_main_books_multiplied_and.prog) (w := w) (base := base) (G := DG.G_lform) d__law_form 2 (DD.kn_df (Γ := DG.Γ__law_form DG.G_lnew DG.G_none) d__law_form DG.sc__law_form rfl rfl bis ⟨(k__law_last_new.mono (by omega)), (DD.kn_never d__law_form), trivial⟩ trivial (DG.J__law_form DG.G_lnew DG.G_none) DG.zero_lform) (fun m ih => DD.kn_df (Γ := DG.Γ__law_form DG.G_lnew (DG.G_lform m)) d__law_form DG.sc__law_form rfl rfl bis ⟨(k__law_last_new.mono (by omega)), ih, trivial⟩ trivial (DG.J__law_form DG.G_lnew (DG.G_lform m)) (DG.le_lform m)) 9
    have k_longs_of : DD.Kn PySem.Challenge.rw_donetwice_k82_main_books_multiplied_and.prog w _ mg base 1 "longs_of" DG.V_longs_of := DD.kn_df (Γ := DG.Γ_longs_of) d_longs_of DG.sc_longs_of rfl rfl bis trivial trivial (DG.J_longs_of) (fun _ _ h => h)
    have k_long_of : DD.Kn PySem.Challenge.rw_donetwice_k82_main_books_multiplied_and.prog w _ mg base 2 "long_of" DG.V_long_of := DD.kn_df (Γ := DG.Γ_long_of DG.V_check_piece DG.V_longs_of) d_long_of DG.sc_long_of rfl rfl bis ⟨(k_check_piece.mono (by omega)), (k_longs_of.mono (by omega)), trivial⟩ trivial (DG.J_long_of DG.V_check_piece DG.V_longs_of) (fun _ _ h => h)
    have k__law_same := DD.kn_rec (P := PySem.Challenge.rw_donetwice_k82_main_books_multiplied_and.prog) (w := w) (base := base) (G := DG.G_same) d__law_same 1 (DD.kn_df (Γ := DG.Γ__law_same DG.G_none) d__law_same DG.sc__law_same rfl rfl bis ⟨(DD.kn_never d__law_same), trivial⟩ trivial (DG.J__law_same DG.G_none) DG.zero_same) (fun m ih => DD.kn_df (Γ := DG.Γ__law_same (DG.G_same m)) d__law_same DG.sc__law_same rfl rfl bis ⟨ih, trivial⟩ trivial (DG.J__law_same (DG.G_same m)) (DG.le_same m)) 12
    have k_alike_pieces : DD.Kn PySem.Challenge.rw_donetwice_k82_main_books_multiplied_and.prog w _ mg base 21 "alike_pieces" DG.V_alike_pieces := DD.kn_df (Γ := DG.Γ_alike_pieces DG.V_form_in) d_alike_pieces DG.sc_alike_pieces rfl rfl bis ⟨(k_form_in.mono (by omega)), trivial⟩ trivial (DG.J_alike_pieces DG.V_form_in) (fun _ _ h => h)
    have k_how_often : DD.Kn PySem.Challenge.rw_donetwice_k82_main_books_multiplied_and.prog w _ mg base 2 "how_often" DG.V_how_often := DD.kn_df (Γ := DG.Γ_how_often DG.V_check_piece) d_how_often DG.sc_how_often rfl rfl bis ⟨(k_check_piece.mono (by omega)), trivial⟩ trivial (DG.J_how_often DG.V_check_piece) (fun _ _ h => h)
    have k_cut_to : DD.Kn PySem.Challenge.rw_donetwice_k82_main_books_multiplied_and.prog w _ mg base 1 "cut_to" DG.V_cut_to := DD.kn_df (Γ := DG.Γ_cut_to) d_cut_to DG.sc_cut_to rfl rfl bis trivial trivial (DG.J_cut_to) (fun _ _ h => h)
    have kg_form_in_stretch : ∀ n, DD.Kn PySem.Challenge.rw_donetwice_k82_main_books_multiplied_and.prog w _ mg base (18 + n) "form_in_stretch" (DG.V_form_in_stretch n) := fun n => by
      induction n with
      | zero => exact (by rw [DG.V_form_in_stretch_z]; exact DD.kn_never d_form_in_stretch)
      | succ m ih => exact (by rw [DG.V_form_in_stretch_s]; exact DD.kn_df (k := 18 + m) (Γ := DG.Γ_form_in_stretch DG.G_form_of DG.G_product (DG.V_form_in_stretch m) DG.V_cut_to) d_form_in_stretch DG.sc_form_in_stretch rfl rfl bis ⟨(k_form_of.mono (by omega)), (k_product.mono (by omega)), ih, (k_cut_to.mono (by omega)), trivial⟩ trivial (DG.J_form_in_stretch DG.G_form_of DG.G_product (DG.V_form_in_stretch m) DG.V_cut_to) (fun _ _ h => h))
    have k_form_in_stretch := (kg_form_in_stretch 115)
    have k_form_between : DD.Kn PySem.Challenge.rw_donetwice_k82_main_books_multiplied_and.prog w _ mg base 134 "form_between" DG.V_form_between := DD.kn_df (Γ := DG.Γ_form_between DG.V_check_piece DG.V_forms_of DG.V_longs_of (DG.V_form_in_stretch 115)) d_form_between DG.sc_form_between rfl rfl bis ⟨(k_check_piece.mono (by omega)), (k_forms_of.mono (by omega)), (k_longs_of.mono (by omega)), (k_form_in_stretch.mono (by omega)), trivial⟩ trivial (DG.J_form_between DG.V_check_piece DG.V_forms_of DG.V_longs_of (DG.V_form_in_stretch 115)) (fun _ _ h => h)
    have kg_stretch_in : ∀ n, DD.Kn PySem.Challenge.rw_donetwice_k82_main_books_multiplied_and.prog w _ mg base (1 + n) "stretch_in" (DG.V_stretch_in n) := fun n => by
      induction n with
      | zero => exact (by rw [DG.V_stretch_in_z]; exact DD.kn_never d_stretch_in)
      | succ m ih => exact (by rw [DG.V_stretch_in_s]; exact DD.kn_df (k := 1 + m) (Γ := DG.Γ_stretch_in (DG.V_stretch_in m) DG.V_cut_to) d_stretch_in DG.sc_stretch_in rfl rfl bis ⟨ih, (k_cut_to.mono (by omega)), trivial⟩ trivial (DG.J_stretch_in (DG.V_stretch_in m) DG.V_cut_to) (fun _ _ h => h))
    have k_stretch_in := (kg_stretch_in 115)
    have k_stretch_of : DD.Kn PySem.Challenge.rw_donetwice_k82_main_books_multiplied_and.prog w _ mg base 117 "stretch_of" DG.V_stretch_of := DD.kn_df (Γ := DG.Γ_stretch_of DG.V_check_piece DG.V_longs_of (DG.V_stretch_in 115)) d_stretch_of DG.sc_stretch_of rfl rfl bis ⟨(k_check_piece.mono (by omega)), (k_longs_of.mono (by omega)), (k_stretch_in.mono (by omega)), trivial⟩ trivial (DG.J_stretch_of DG.V_check_piece DG.V_longs_of (DG.V_stretch_in 115)) (fun _ _ h => h)
    have k_letter_at : DD.Kn PySem.Challenge.rw_donetwice_k82_main_books_multiplied_and.prog w _ mg base 118 "letter_at" DG.V_letter_at := DD.kn_df (Γ := DG.Γ_letter_at DG.V_check_piece DG.V_stretch_of) d_letter_at DG.sc_letter_at rfl rfl bis ⟨(k_check_piece.mono (by omega)), (k_stretch_of.mono (by omega)), trivial⟩ trivial (DG.J_letter_at DG.V_check_piece DG.V_stretch_of) (fun _ _ h => h)
    have k_last_place : DD.Kn PySem.Challenge.rw_donetwice_k82_main_books_multiplied_and.prog w _ mg base 2 "last_place" DG.V_last_place := DD.kn_df (Γ := DG.Γ_last_place DG.V_check_piece DG.V_longs_of) d_last_place DG.sc_last_place rfl rfl bis ⟨(k_check_piece.mono (by omega)), (k_longs_of.mono (by omega)), trivial⟩ trivial (DG.J_last_place DG.V_check_piece DG.V_longs_of) (fun _ _ h => h)
    have k_first_place : DD.Kn PySem.Challenge.rw_donetwice_k82_main_books_multiplied_and.prog w _ mg base 2 "first_place" DG.V_first_place := DD.kn_df (Γ := DG.Γ_first_place DG.V_check_piece DG.V_longs_of) d_first_place DG.sc_first_place rfl rfl bis ⟨(k_check_piece.mono (by omega)), (k_longs_of.mono (by omega)), trivial⟩ trivial (DG.J_first_place DG.V_check_piece DG.V_longs_of) (fun _ _ h => h)
    have k_check_names : DD.Kn PySem.Challenge.rw_donetwice_k82_main_books_multiplied_and.prog w _ mg base 1 "check_names" DG.G_check_names := DD.kn_df (Γ := DG.Γ_check_names) d_check_names DG.sc_check_names rfl rfl bis trivial trivial (DG.J_check_names) DG.le_check_names
    have k_renamed : DD.Kn PySem.Challenge.rw_donetwice_k82_main_books_multiplied_and.prog w _ mg base 2 "renamed" DG.G_renamed := DD.kn_df (Γ := DG.Γ_renamed DG.G_check_names) d_renamed DG.sc_renamed rfl rfl bis ⟨(k_check_names.mono (by omega)), trivial⟩ trivial (DG.J_renamed DG.G_check_names) DG.le_renamed
    have k_form_renamed : DD.Kn PySem.Challenge.rw_donetwice_k82_main_books_multiplied_and.prog w _ mg base 18 "form_renamed" DG.G_form_renamed := DD.kn_df (Γ := DG.Γ_form_renamed DG.G_plan_of DG.G_renamed DG.G_form_of) d_form_renamed DG.sc_form_renamed rfl rfl bis ⟨(k_plan_of.mono (by omega)), (k_renamed.mono (by omega)), (k_form_of.mono (by omega)), trivial⟩ trivial (DG.J_form_renamed DG.G_plan_of DG.G_renamed DG.G_form_of) DG.le_form_renamed
    have k_form_back : DD.Kn PySem.Challenge.rw_donetwice_k82_main_books_multiplied_and.prog w _ mg base 18 "form_back" DG.G_form_back := DD.kn_df (Γ := DG.Γ_form_back DG.G_plan_of DG.G_form_of) d_form_back DG.sc_form_back rfl rfl bis ⟨(k_plan_of.mono (by omega)), (k_form_of.mono (by omega)), trivial⟩ trivial (DG.J_form_back DG.G_plan_of DG.G_form_of) DG.le_form_back
    have k__law_right : DD.Kn PySem.Challenge.rw_donetwice_k82_main_books_multiplied_and.prog w _ mg base 135 "_law_right" DG.V__law_right := DD.kn_df (Γ := DG.Γ__law_right DG.G_take DG.G_letters DG.V__law_book (DG.V__law_told 12) (DG.V__law_lists 12) DG.V_form_in (DG.G_lform 9) DG.V_long_of (DG.G_same 12) DG.G_of DG.V_alike_pieces DG.V_how_often DG.V_form_between DG.V_stretch_of DG.V_letter_at DG.V_last_place DG.V_first_place DG.G_product DG.G_pick DG.G_renamed DG.G_form_renamed DG.G_form_back) d__law_right DG.sc__law_right rfl rfl bis ⟨(k__law_take.mono (by omega)), (k__law_letters.mono (by omega)), (k__law_book.mono (by omega)), (k__law_told.mono (by omega)), (k__law_lists.mono (by omega)), (k_form_in.mono (by omega)), (k__law_form.mono (by omega)), (k_long_of.mono (by omega)), (k__law_same.mono (by omega)), (k__law_of.mono (by omega)), (k_alike_pieces.mono (by omega)), (k_how_often.mono (by omega)), (k_form_between.mono (by omega)), (k_stretch_of.mono (by omega)), (k_letter_at.mono (by omega)), (k_last_place.mono (by omega)), (k_first_place.mono (by omega)), (k_product.mono (by omega)), (k__law_pick.mono (by omega)), (k_renamed.mono (by omega)), (k_form_renamed.mono (by omega)), (k_form_back.mono (by omega)), trivial⟩ trivial (DG.J__law_right DG.G_take DG.G_letters DG.V__law_book (DG.V__law_told 12) (DG.V__law_lists 12) DG.V_form_in (DG.G_lform 9) DG.V_long_of (DG.G_same 12) DG.G_of DG.V_alike_pieces DG.V_how_often DG.V_form_between DG.V_stretch_of DG.V_letter_at DG.V_last_place DG.V_first_place DG.G_product DG.G_pick DG.G_renamed DG.G_form_renamed DG.G_form_back) (fun _ _ h => h)
    have k__law_box : DD.Kn PySem.Challenge.rw_donetwice_k82_main_books_multiplied_and.prog w _ mg base 1 "_law_box" DG.V__law_box := DD.kn_df (Γ := DG.Γ__law_box) d__law_box DG.sc__law_box rfl rfl bis trivial trivial (DG.J__law_box) (fun _ _ h => h)
    exact ⟨(k__law_cells.mono (by omega)), (k__law_right.mono (by omega)), (k__law_box.mono (by omega)), trivial⟩
