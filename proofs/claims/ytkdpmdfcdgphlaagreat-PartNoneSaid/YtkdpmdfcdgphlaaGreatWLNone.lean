import Derived.Test.YtkdpmdfcdgphlaaGreatM2
import Derived.Test.YtkdpmdfcdgphlaaGreatWNil
set_option linter.all false
namespace Go.Proofs.YtkdpmdfcdgphlaaGreat
open Tryz
open Go.RowKit Go.Mem Go.Po
set_option maxHeartbeats 8000000 in
set_option maxRecDepth 100000 in
theorem Qkq(w:World):Calls prog 14 #[] w λe w'=>e=.returned (.bool true)/\Bel w w':=by
 go_enter func14,ntmps14;go_wp2_with fail;refine((F7 w).1).zR λb a=>?_
 have f:=Zh a;clear a;obtain⟨c,a⟩:=Zx (b.alloc (.cells #[.int .i64 0,.string ⟨#[]⟩,.string ⟨#[]⟩,.int .i64 0,.int .i64 0,.int .i64 0] 47));have d:=f.trans (a▸(Bel.refl b).alloc _);have b:=Zn a;obtain⟨z,y,x,v⟩:=Zh4 a b d (Bel.refl c);clear a b d;go_wp2_with fail;rw[<-z.o];refine((F7 c).2.1).zR λb a=>?_
 have n:=Zh (v.trans a);clear a;go_wp2_with fail;refine((F7 b).2.2.1).zR λb a=>?_
 have o:=Zh (n.trans a);clear a;go_wp2_with fail;refine((Uk b).1).zR λb a=>?_
 have p:=Zh (o.trans a);clear a;go_wp2_with fail;refine((Uk b).2.1).zR λb a=>?_
 have q:=Zh (p.trans a);clear a;go_wp2_with fail;refine((Uk b).2.2.1).zR λb a=>?_
 have r:=Zh (q.trans a);clear a;go_wp2_with fail;refine((Uk b).2.2.2.1).zR λw8 a=>?_
 have s:=Zh (r.trans a);clear a;go_wp2_with fail;refine(Qci w8).zR λb a=>?_
 have t:=Zh (s.trans a);clear a;go_wp2_with fail;refine((F7 b).2.2.2.1).zR λd b=>?_
 have a:=Zh (t.trans b);clear b;have A:=cell_of_block (a.heap y) 0 _ rfl;go_wp2_with fail;refine((F7 d).2.2.2.2.1).zR λg b=>?_
 have d:=Zh (a.trans b);clear b;go_wp2_with fail;refine((F7 g).2.2.2.2.2.1).zR λh b=>?_
 have g:=Zh (d.trans b);clear b;go_wp2_with fail;refine((F7 h).2.2.2.2.2.2).zR λi b=>?_
 have h:=Zh (g.trans b);clear b;go_wp2_with fail;refine((Uk i).2.2.2.2.1).zR λj b=>?_
 have i:=Zh (h.trans b);clear b;go_wp2_with fail;refine((Uk j).2.2.2.2.2.1).zR λk b=>?_
 have j:=Zh (i.trans b);clear b;go_wp2_with fail;refine((Uk k).2.2.2.2.2.2.1).zR λl b=>?_
 have k:=Zh (j.trans b);clear b;go_wp2_with fail;refine((Uk l).2.2.2.2.2.2.2.1).zR λm b=>?_
 have l:=Zh (k.trans b);clear b;go_wp2_with fail;refine((Uk m).2.2.2.2.2.2.2.2).zR λb b=>?_
 have m:=Zh (l.trans b);clear b;go_wp2;go_ret;exact⟨rfl,x.trans m⟩
end Go.Proofs.YtkdpmdfcdgphlaaGreat
